/- The plain statement of the law FnStores, for all numbers and lists. -/
import Derived.Test.YtlbecibchkamjaaPFnStoresx0
import Derived.Test.YtlbecibchkamjaaPFnStoresx1
import Derived.Test.YtlbecibchkamjaaPFnStoresx2
import Derived.Test.YtlbecibchkamjaaPFnStoresx3
import Derived.Test.YtlbecibchkamjaaPFnStoresx4
import Derived.Test.YtlbecibchkamjaaPFnStoresx5
import Derived.Test.YtlbecibchkamjaaPFnStoresx6
import Derived.Test.YtlbecibchkamjaaPFnStoresx7
import Derived.Test.YtlbecibchkamjaaPFnStoresx8
import Derived.Test.YtlbecibchkamjaaPFnStoresx9
import Derived.Test.YtlbecibchkamjaaPFnStoresx10
import Derived.Test.YtlbecibchkamjaaBase
set_option linter.unusedVariables false
set_option linter.unusedSimpArgs false
namespace Go.Proofs.Ytlbecibchkamjaa.Pure
open Go.RowKit Go.Proofs.Ytlbecibchkamjaa.PFnStores Go.Proofs.YtlbecibchkamjaaW.PrintWords Go.Proofs.YtlbecibchkamjaaW.PrintLast Go.Proofs.YtlbecibchkamjaaW.PrintMore Go.Proofs.Ytlbecibchkamjaa.Base
theorem l1In_eq (x a b : Int) : spec_l1In.f x a b = some (decide (a ≤ x ∧ x ≤ b)) := by
  unfold spec_l1In.f
  by_cases h : a ≤ x <;> simp [h]
theorem inRange_eq (x a b : Int) : impl_InRange.f x a b = some (decide (a ≤ x ∧ x ≤ b)) := by
  unfold impl_InRange.f
  by_cases h : a ≤ x <;> simp [h]

/-- Where a reader of draws stands: within its bytes. -/
def Cur (b : List Int) (i : Int) : Prop := 0 ≤ i ∧ i ≤ b.length
theorem and255 (x : Int) : 0 ≤ Go.bits .and .i64 x 255 ∧ Go.bits .and .i64 x 255 ≤ 255 := by
  have h : (BitVec.ofInt 64 x &&& BitVec.ofInt 64 255).toNat ≤ 255 := by
    rw [BitVec.toNat_and]
    have h2 : (BitVec.ofInt 64 255).toNat = 255 := by decide
    rw [h2]
    exact Nat.and_le_right
  have e : Go.bits .and .i64 x 255 = IntKind.i64.wrap ((BitVec.ofInt 64 x &&& BitVec.ofInt 64 255).toNat : Int) := rfl
  rw [e, IntKind.wrap_i64]
  omega
theorem l1Byte_ok (b : List Int) (i h : Int) (hc : Cur b i) (hb : b.length ≤ 1048576) : ∃ r i2 h2, spec_l1Byte.f b i h = some (r, i2, h2) ∧ (0 ≤ r ∧ r ≤ 255) ∧ Cur b i2 := by
  obtain ⟨hc0, hc1⟩ := hc
  unfold spec_l1Byte.f
  by_cases hi : i < (b.length : Int)
  · rw [if_pos hi, if_pos hc0, wrap_id (x := i + 1) (by omega) (by omega)]
    exact ⟨_, _, _, rfl, and255 _, by unfold Cur; omega⟩
  · rw [if_neg hi]
    exact ⟨_, _, _, rfl, and255 _, hc0, hc1⟩
theorem tmod_ok (x n : Int) (hx : 0 ≤ x) (hn : 0 < n) : 0 ≤ Int.tmod x n ∧ Int.tmod x n < n := by
  rw [Int.tmod_eq_emod_of_nonneg hx]
  exact ⟨Int.emod_nonneg _ (by omega), Int.emod_lt_of_pos _ hn⟩
theorem l1Below_ok (b : List Int) (i h n : Int) (hc : Cur b i) (hb : b.length ≤ 1048576) : ∃ r i2 h2, spec_l1Below.f b i h n = some (r, i2, h2) ∧ 0 ≤ r ∧ (0 < n → r < n) ∧ (n ≤ 0 → r = 0) ∧ Cur b i2 := by
  unfold spec_l1Below.f
  by_cases h0 : n ≤ 0
  · rw [if_pos h0]
    exact ⟨_, _, _, rfl, by omega, by omega, fun _ => rfl, hc⟩
  · rw [if_neg h0]
    by_cases h1 : n ≤ 256
    · obtain ⟨r, i2, h2, e, hr, hc2⟩ := l1Byte_ok b i h hc hb
      rw [if_pos h1, e]
      simp only [Option.bind_some]
      rw [if_neg (by omega)]
      exact ⟨_, _, _, rfl, (tmod_ok r n hr.1 (by omega)).1, fun _ => (tmod_ok r n hr.1 (by omega)).2, by omega, hc2⟩
    · obtain ⟨r, i2, h2, e, hr, hc2⟩ := l1Byte_ok b i h hc hb
      obtain ⟨r3, i3, h3, e3, hr3, hc3⟩ := l1Byte_ok b i2 h2 hc2 hb
      obtain ⟨r4, i4, h4, e4, hr4, hc4⟩ := l1Byte_ok b i3 h3 hc3 hb
      rw [if_neg h1, e]
      simp only [Option.bind_some]
      rw [e3]
      simp only [Option.bind_some]
      rw [e4]
      simp only [Option.bind_some]
      rw [if_neg (by omega), wrap_id (x := r * 65536) (by omega) (by omega), wrap_id (x := r3 * 256) (by omega) (by omega), wrap_id (x := r * 65536 + r3 * 256) (by omega) (by omega), wrap_id (x := r * 65536 + r3 * 256 + r4) (by omega) (by omega)]
      exact ⟨_, _, _, rfl, (tmod_ok _ n (by omega) (by omega)).1, fun _ => (tmod_ok _ n (by omega) (by omega)).2, by omega, hc4⟩
theorem l1New_l0 (b : List Int) (hb : b.length ≤ 1048576) : ∀ (zs : List Int) (i : Nat) (h : Int), b.drop i = zs → ∃ h2, Ev (fun k => spec_l1New.l0 k b h (i : Int)) (b, 0, h2) := by
  intro zs
  induction zs with
  | nil =>
    intro i h hd
    have := at_end hd
    refine ⟨h, Ev.step (fun k => by rw [spec_l1New.l0]) ?_⟩
    exact ev_neg (by omega) (Ev.now _)
  | cons z zs ih =>
    intro i h hd
    obtain ⟨hi, hz, hd2, _⟩ := at_drop hd
    by_cases h4 : (i : Int) < 4000
    · obtain ⟨h2, hev⟩ := ih (i + 1) (Go.bits .and .i64 (wrap64 ((wrap64 ((wrap64 (h * 137)) + (wrap64 (rd b (i : Int))))) + 11)) 1073741823) hd2
      refine ⟨h2, Ev.step (fun k => by rw [spec_l1New.l0]) ?_⟩
      refine ev_pos (by omega) (ev_pos h4 (ev_pos (by omega) ?_))
      rw [wrap_id (x := (i : Int) + 1) (by omega) (by omega)]
      exact hev
    · refine ⟨h, Ev.step (fun k => by rw [spec_l1New.l0]) ?_⟩
      exact ev_pos (by omega) (ev_neg h4 (Ev.now _))
theorem l1New_ok (b : List Int) (hb : b.length ≤ 1048576) : ∃ h2, Ev (fun k => spec_l1New.f k b) (b, 0, h2) ∧ Cur b 0 := by
  unfold spec_l1New.f
  obtain ⟨h2, hev⟩ := l1New_l0 b hb b 0 (wrap64 (193017 + (b.length : Int))) rfl
  exact ⟨h2, hev, by unfold Cur; omega⟩
theorem l1Int_ok (b : List Int) (i h : Int) (l : List Int) (hc : Cur b i) (hb : b.length ≤ 1048576) (hl : 0 < l.length) : ∃ r i2 h2, spec_l1Int.f b i h l = some (r, i2, h2) ∧ r ∈ l ∧ Cur b i2 := by
  unfold spec_l1Int.f
  obtain ⟨r, i2, h2, e, h0, hlt, _, hc2⟩ := l1Below_ok b i h (l.length : Int) hc hb
  have := hlt (by omega)
  rw [e]
  simp only [Option.bind_some]
  rw [if_pos h0, if_pos this]
  refine ⟨_, _, _, rfl, ?_, hc2⟩
  obtain ⟨n, rfl⟩ : ∃ n : Nat, r = n := ⟨r.toNat, by omega⟩
  rw [rd_nat l n (by omega)]
  exact List.getElem_mem _
theorem l1Once_ok (b : List Int) (i h n : Int) (hc : Cur b i) (hb : b.length ≤ 1048576) : ∃ (r : Bool) (i2 h2 : Int), spec_l1Once.f b i h n = some (r, i2, h2) ∧ Cur b i2 := by
  unfold spec_l1Once.f
  obtain ⟨r, i2, h2, e, _, _, _, hc2⟩ := l1Below_ok b i h n hc hb
  rw [e]
  exact ⟨_, _, _, rfl, hc2⟩
theorem big_eq (b : List Int) : laws_big.f b = some (decide ((b.length : Int) > 1048576)) := rfl

/-- How many values are on the pile behind a formula's signs, from n on. -/
def shape : List Int → Nat → Option Nat
  | [], n => some n
  | s :: r, n => if 0 ≤ s ∧ s ≤ 5 then shape r (n + 1) else if s = -1 then (if 1 ≤ n then shape r n else none) else if -4 ≤ s ∧ s ≤ -2 then (if 2 ≤ n then shape r (n - 1) else none) else none
def isFormula (f : List Int) : Bool := decide (shape f 0 = some 1) && decide (f.length ≤ 24)
/-- The pile (its top first) behind a formula's signs. -/
def evalS {β : Type} (lit : Int → β) (no : β → β) (op : Int → β → β → β) : List Int → List β → Option (List β)
  | [], st => some st
  | s :: r, st => if 0 ≤ s ∧ s ≤ 5 then evalS lit no op r (lit s :: st) else if s = -1 then (match st with | x :: st2 => evalS lit no op r (no x :: st2) | [] => none) else if -4 ≤ s ∧ s ≤ -2 then (match st with | b :: a :: st2 => evalS lit no op r (op s a b :: st2) | _ => none) else none
theorem evalS_shape {β : Type} (lit : Int → β) (no : β → β) (op : Int → β → β → β) : ∀ (f : List Int) (st : List β), (evalS lit no op f st).map List.length = shape f st.length := by
  intro f
  induction f with
  | nil => intro st; rfl
  | cons s r ih =>
    intro st
    unfold evalS shape
    by_cases h0 : 0 ≤ s ∧ s ≤ 5
    · rw [if_pos h0, if_pos h0, ih]; rfl
    · rw [if_neg h0, if_neg h0]
      by_cases h1 : s = -1
      · rw [if_pos h1, if_pos h1]
        cases st with
        | nil => rfl
        | cons x st2 => rw [if_pos (by simp)]; dsimp only; rw [ih]; rfl
      · rw [if_neg h1, if_neg h1]
        by_cases h2 : -4 ≤ s ∧ s ≤ -2
        · rw [if_pos h2, if_pos h2]
          match st with
          | [] => rfl
          | [x] => rfl
          | b :: a :: st2 => rw [if_pos (by simp)]; dsimp only; rw [ih]; rfl
        · rw [if_neg h2, if_neg h2]; rfl
/-- One homomorphism's image of the other's pile. -/
theorem evalS_map {β γ : Type} {lit : Int → β} {no : β → β} {op : Int → β → β → β} {lit2 : Int → γ} {no2 : γ → γ} {op2 : Int → γ → γ → γ} (h : β → γ)
    (h0 : ∀ s, 0 ≤ s → s ≤ 5 → h (lit s) = lit2 s) (h1 : ∀ x, h (no x) = no2 (h x)) (h2 : ∀ s a b, -4 ≤ s → s ≤ -2 → h (op s a b) = op2 s (h a) (h b)) :
    ∀ (f : List Int) (st : List β), evalS lit2 no2 op2 f (st.map h) = (evalS lit no op f st).map (List.map h) := by
  intro f
  induction f with
  | nil => intro st; rfl
  | cons s r ih =>
    intro st
    unfold evalS
    by_cases k0 : 0 ≤ s ∧ s ≤ 5
    · rw [if_pos k0, if_pos k0, ← ih, List.map_cons, h0 s k0.1 k0.2]
    · rw [if_neg k0, if_neg k0]
      by_cases k1 : s = -1
      · rw [if_pos k1, if_pos k1]
        cases st with
        | nil => rfl
        | cons x st2 => simp only [List.map_cons]; rw [← ih, List.map_cons, h1]
      · rw [if_neg k1, if_neg k1]
        by_cases k2 : -4 ≤ s ∧ s ≤ -2
        · rw [if_pos k2, if_pos k2]
          match st with
          | [] => rfl
          | [x] => rfl
          | b :: a :: st2 => simp only [List.map_cons]; rw [← ih, List.map_cons, h2 s a b k2.1 k2.2]
        · rw [if_neg k2, if_neg k2]; rfl
def opB (s : Int) (a b : Bool) : Bool := if s = -2 then a && b else if s = -3 then a || b else !a || b
/-- A formula's value where v has the letters' values; false where it is no formula. -/
def valB (v : Nat → Bool) (f : List Int) : Bool := match evalS (fun s => v s.toNat) (fun x => !x) opB f [] with | some [x] => x | _ => false
def value (v : Nat → Bool) (f : List Int) : Bool := isFormula f && valB v f
theorem isFormula_spec_l0 (xs : List Int) (hn : xs.length ≤ 9223372036854775800) : ∀ (zs : List Int) (i n : Nat), xs.drop i = zs → n ≤ i → Ev (fun k => spec_IsFormula.l0 k xs (n : Int) (i : Int)) (decide (shape zs n = some 1) && decide (xs.length ≤ 24)) := by
  intro zs
  induction zs with
  | nil =>
    intro i n h _
    have := at_end h
    refine Ev.step (fun k => by rw [spec_IsFormula.l0]) ?_
    refine ev_neg (by omega) (ev_ite (fun e => ev_eq (Ev.now _) ?_) (fun e => ev_eq (Ev.now _) ?_))
    · have : n = 1 := by omega
      subst this
      simp [shape]
      omega
    · have : n ≠ 1 := by omega
      simp [shape, this]
  | cons z zs ih =>
    intro i n h hni
    obtain ⟨hi, hz, h2, _⟩ := at_drop h
    refine Ev.step (fun k => by rw [spec_IsFormula.l0]) ?_
    refine ev_pos (by omega) (ev_pos (by omega) ?_)
    rw [rd_get hz, wrap_id (x := (i : Int) + 1) (by omega) (by omega)]
    have hsh : shape (z :: zs) n = if 0 ≤ z ∧ z ≤ 5 then shape zs (n + 1) else if z = -1 then (if 1 ≤ n then shape zs n else none) else if -4 ≤ z ∧ z ≤ -2 then (if 2 ≤ n then shape zs (n - 1) else none) else none := rfl
    rw [hsh]
    refine ev_bind0 (l1In_eq _ _ _) (ev_ite (fun e0 => ?_) (fun e0 => ?_))
    · simp only [decide_eq_true_eq] at e0
      rw [if_pos e0, wrap_id (by omega) (by omega)]
      exact ih (i + 1) (n + 1) h2 (by omega)
    · simp only [decide_eq_true_eq] at e0
      rw [if_neg e0]
      have tail : z ≠ -1 ∨ ¬ 1 ≤ n → Ev (fun k => spec_IsFormula.j1 k xs (n : Int) (i : Int) false) (decide ((if z = -1 then (if 1 ≤ n then shape zs n else none) else if -4 ≤ z ∧ z ≤ -2 then (if 2 ≤ n then shape zs (n - 1) else none) else none) = some 1) && decide (xs.length ≤ 24)) := by
        intro hz1
        refine Ev.step (fun k => by rw [spec_IsFormula.j1]) ?_
        refine ev_neg (by decide) (ev_pos (by omega) (ev_pos (by omega) ?_))
        rw [rd_get hz, wrap_id (x := (i : Int) + 1) (by omega) (by omega)]
        refine ev_bind0 (l1In_eq _ _ _) (ev_ite (fun e2 => ?_) (fun e2 => ev_eq (Ev.now _) ?_))
        · simp only [decide_eq_true_eq] at e2
          rw [if_neg (show ¬ z = -1 by omega), if_pos e2]
          refine ev_ite (fun e3 => ?_) (fun e3 => ev_eq (Ev.now _) ?_)
          · rw [if_pos (by omega), wrap_id (by omega) (by omega), show (n : Int) - 1 = ((n - 1 : Nat) : Int) by omega]
            exact ih (i + 1) (n - 1) h2 (by omega)
          · rw [if_neg (by omega)]
            simp
        · simp only [decide_eq_true_eq] at e2
          rw [if_neg e2]
          rcases hz1 with hz1 | hz1
          · rw [if_neg hz1]; simp
          · rw [if_neg hz1]; simp
      refine ev_ite (fun e1 => ?_) (fun e1 => tail (.inl e1))
      by_cases hn1 : 1 ≤ n
      · rw [if_pos e1, if_pos hn1, show decide ((n : Int) ≥ 1) = true by simp; omega]
        refine Ev.step (fun k => by rw [spec_IsFormula.j1]) (ev_pos rfl ?_)
        rw [wrap_id (x := (i : Int) + 1) (by omega) (by omega)]
        exact ih (i + 1) n h2 (by omega)
      · rw [show decide ((n : Int) ≥ 1) = false by simp; omega]
        exact tail (.inr hn1)
theorem isFormula_spec (f : List Int) (hn : f.length ≤ 9223372036854775800) : Ev (fun k => spec_IsFormula.f k f) (isFormula f) := by
  unfold spec_IsFormula.f
  exact isFormula_spec_l0 f hn f 0 0 rfl (by omega)
theorem rdOf_snoc {α : Type} (d x : α) (l : List α) (i : Int) (h : i = l.length) : rdOf d (l ++ [x]) i = x := by
  subst h
  unfold rdOf
  simp
theorem set_snoc {α : Type} (x y : α) (l : List α) (i : Int) (h : i = l.length) : (l ++ [x]).set i.toNat y = l ++ [y] := by
  subst h
  rw [Int.toNat_natCast, List.set_append_right _ _ (Nat.le_refl _)]
  simp
theorem opB_eq (s : Int) (a b : Bool) : spec_l10Op.f s a b = some (opB s a b) := by
  unfold spec_l10Op.f opB
  by_cases h2 : s = -2
  · cases a <;> simp [h2]
  · by_cases h3 : s = -3
    · cases a <;> simp [h3]
    · cases a <;> simp [h2, h3]
theorem value_spec_l0 (xs : List Int) (ls : List Bool) (v : Nat → Bool) (hv : ∀ k : Nat, v k = ls.getD k false) (hn : xs.length ≤ 24) (hl : ls.length ≤ 9223372036854775807) : ∀ (zs : List Int) (i : Nat) (st : List Bool), xs.drop i = zs → st.length ≤ i → shape zs st.length = some 1 →
    Ev (fun k => spec_Value.l0 k xs ls st.reverse (i : Int)) (match evalS (fun s => v s.toNat) (fun x => !x) opB zs st with | some [x] => x | _ => false) := by
  intro zs
  induction zs with
  | nil =>
    intro i st h hst hsh
    have := at_end h
    have hl1 : st.length = 1 := by simpa [shape] using hsh
    match st, hl1 with
    | [x], _ =>
      refine Ev.step (fun k => by rw [spec_Value.l0]) ?_
      exact ev_neg (by omega) (ev_pos (by simp) (ev_eq (Ev.now _) rfl))
  | cons z zs ih =>
    intro i st h hst hsh
    obtain ⟨hi, hz, h2, _⟩ := at_drop h
    have hrl : st.reverse.length = st.length := List.length_reverse
    refine Ev.step (fun k => by rw [spec_Value.l0]) ?_
    refine ev_pos (by omega) (ev_pos (by omega) ?_)
    rw [rd_get hz, wrap_id (x := (i : Int) + 1) (by omega) (by omega)]
    unfold shape at hsh
    unfold evalS
    by_cases e0 : 0 ≤ z ∧ z ≤ 5
    · rw [if_pos e0] at hsh
      rw [if_pos e0]
      have ih2 := ih (i + 1) (v z.toNat :: st) h2 (by first | (simp; done) | (simp; omega)) hsh
      rw [List.reverse_cons] at ih2
      refine ev_pos (by omega) ?_
      by_cases hlt : z < (ls.length : Int)
      · refine ev_pos hlt (ev_pos e0.1 (ev_pos (by omega) ?_))
        rw [show rdOf false ls z = v z.toNat from (hv z.toNat).symm]
        exact ih2
      · refine ev_neg hlt (ev_pos (by omega) ?_)
        have : v z.toNat = false := by
          rw [hv, List.getD_eq_getElem?_getD, List.getElem?_eq_none (by omega)]
          rfl
        rw [this] at ih2 ⊢
        exact ih2
    · rw [if_neg e0] at hsh
      rw [if_neg e0]
      by_cases e1 : z = -1
      · rw [if_pos e1] at hsh
        rw [if_pos e1]
        refine ev_neg (by omega) (ev_pos e1 ?_)
        cases st with
        | nil => simp at hsh
        | cons x st2 =>
          rw [if_pos (by simp)] at hsh
          have ih2 := ih (i + 1) ((!x) :: st2) h2 (by simp only [List.length_cons] at hst ⊢; omega) (by simpa using hsh)
          rw [List.reverse_cons] at ih2 ⊢
          simp only [List.length_cons] at hst
          rw [wrap_id (x := ((st2.reverse ++ [x]).length : Int) - 1) (by first | (simp; done) | (simp; omega)) (by first | (simp; done) | (simp; omega))]
          refine ev_pos (by first | (simp; done) | (simp; omega)) (ev_pos (by first | (simp; done) | (simp; omega)) ?_)
          rw [rdOf_snoc false x st2.reverse _ (by first | (simp; done) | (simp; omega)), set_snoc x (!x) st2.reverse _ (by first | (simp; done) | (simp; omega))]
          exact ih2
      · rw [if_neg e1] at hsh
        rw [if_neg e1]
        by_cases e2 : -4 ≤ z ∧ z ≤ -2
        · rw [if_pos e2] at hsh
          rw [if_pos e2]
          refine ev_neg (by omega) (ev_neg e1 ?_)
          match st with
          | [] => simp at hsh
          | [x] => simp at hsh
          | b :: a :: st2 =>
            rw [if_pos (by simp)] at hsh
            simp only [List.length_cons] at hst
            have ih2 := ih (i + 1) (opB z a b :: st2) h2 (by first | (simp; done) | (simp; omega)) (by simpa using hsh)
            rw [List.reverse_cons] at ih2
            dsimp only
            rw [List.reverse_cons, List.reverse_cons]
            have hlen : ((st2.reverse ++ [a] ++ [b]).length : Int) = st2.length + 2 := (by first | (simp; done) | (simp; omega))
            rw [hlen, wrap_id (x := (st2.length : Int) + 2 - 2) (by omega) (by omega), wrap_id (x := (st2.length : Int) + 2 - 1) (by omega) (by omega)]
            refine ev_pos (by omega) (ev_pos (by omega) (ev_pos (by omega) (ev_pos (by omega) ?_)))
            rw [rdOf_snoc false b (st2.reverse ++ [a]) ((st2.length : Int) + 2 - 1) (by first | (simp; done) | (simp; omega))]
            have ha : rdOf false (st2.reverse ++ [a] ++ [b]) ((st2.length : Int) + 2 - 2) = a := by
              rw [show (st2.length : Int) + 2 - 2 = ((st2.length : Nat) : Int) by omega]
              unfold rdOf
              simp
            have ht : (st2.reverse ++ [a] ++ [b]).take ((st2.length : Int) + 2 - 2).toNat = st2.reverse := by
              rw [show (st2.length : Int) + 2 - 2 = ((st2.length : Nat) : Int) by omega, Int.toNat_natCast, List.append_assoc, List.take_append_of_le_length (by simp), List.take_of_length_le (by simp)]
            rw [ha, ht]
            refine ev_bind0 (opB_eq _ _ _) (ev_pos (by omega) (ev_bind0 rfl (ev_pos (by first | (simp; done) | (simp; omega)) ?_)))
            exact ih2
        · rw [if_neg e2] at hsh
          simp at hsh
theorem value_spec (f : List Int) (ls : List Bool) (hn : f.length ≤ 9223372036854775800) (hl : ls.length ≤ 9223372036854775807) : Ev (fun k => spec_Value.f k f ls) (value (fun k => ls.getD k false) f) := by
  unfold spec_Value.f value
  refine Ev.bind (isFormula_spec f hn) (ev_ite (fun e => ?_) (fun e => ev_eq (Ev.now _) ?_))
  · rw [e, Bool.true_and]
    have e2 := e
    simp only [isFormula, Bool.and_eq_true, decide_eq_true_eq] at e2
    exact value_spec_l0 f ls _ (fun _ => rfl) e2.2 hl f 0 [] rfl (by simp) e2.1
  · simp [e]
/-- A formula's value in row m. -/
def rowVal (m : Nat) (f : List Int) : Bool := value (fun k => m.testBit k) f
theorem l11Row_all : ∀ m : Fin 64, spec_l11Row.f 7 ((m.val : Nat) : Int) = some ((List.range 6).map fun k => m.val.testBit k) := by decide +kernel
theorem l11Row_ev (m : Nat) (hm : m < 64) : Ev (fun k => spec_l11Row.f k (m : Int)) ((List.range 6).map fun k => m.testBit k) :=
  Ev.of (spec_l11Row.mono (m : Int)) (k := 7) (l11Row_all ⟨m, hm⟩)
theorem testBit_high (m k : Nat) (hm : m < 64) (hk : 6 ≤ k) : m.testBit k = false := by
  apply Nat.testBit_lt_two_pow
  calc m < 2 ^ 6 := hm
    _ ≤ 2 ^ k := Nat.pow_le_pow_right (by decide) hk
theorem row_getD (m : Nat) (hm : m < 64) (k : Nat) : ((List.range 6).map fun k => m.testBit k).getD k false = m.testBit k := by
  rw [List.getD_eq_getElem?_getD, List.getElem?_map]
  by_cases h : k < 6
  · rw [List.getElem?_range h]; rfl
  · rw [List.getElem?_eq_none (by first | (simp; done) | (simp; omega)), testBit_high m k hm (by omega)]; rfl
theorem value_row (f : List Int) (m : Nat) (hm : m < 64) (hn : f.length ≤ 9223372036854775800) : Ev (fun k => spec_Value.f k f ((List.range 6).map fun k => m.testBit k)) (rowVal m f) := by
  refine ev_eq (value_spec f _ hn (by simp)) ?_
  unfold rowVal
  congr 1
  funext k
  exact row_getD m hm k
theorem wrap_u64_ (n : Int) : IntKind.u64.wrap n = n % 18446744073709551616 := by simp [IntKind.wrap, IntKind.bits, IntKind.signed]
theorem bits_and_bv (a b : BitVec 64) : Go.bits .and .u64 (a.toNat : Int) (b.toNat : Int) = ((a &&& b).toNat : Int) := by
  show IntKind.u64.wrap ((BitVec.ofInt 64 (a.toNat : Int) &&& BitVec.ofInt 64 (b.toNat : Int)).toNat : Int) = _
  rw [BitVec.ofInt_natCast, BitVec.ofInt_natCast, BitVec.ofNat_toNat, BitVec.ofNat_toNat, BitVec.setWidth_eq, BitVec.setWidth_eq]
  have := (a &&& b).isLt
  rw [wrap_u64_]
  omega
theorem bits_or_bv (a b : BitVec 64) : Go.bits .or .u64 (a.toNat : Int) (b.toNat : Int) = ((a ||| b).toNat : Int) := by
  show IntKind.u64.wrap ((BitVec.ofInt 64 (a.toNat : Int) ||| BitVec.ofInt 64 (b.toNat : Int)).toNat : Int) = _
  rw [BitVec.ofInt_natCast, BitVec.ofInt_natCast, BitVec.ofNat_toNat, BitVec.ofNat_toNat, BitVec.setWidth_eq, BitVec.setWidth_eq]
  have := (a ||| b).isLt
  rw [wrap_u64_]
  omega
theorem bits_not_bv (a : BitVec 64) : Go.bits .xor .u64 18446744073709551615 (a.toNat : Int) = ((~~~a).toNat : Int) := by
  show IntKind.u64.wrap ((BitVec.ofInt 64 18446744073709551615 ^^^ BitVec.ofInt 64 (a.toNat : Int)).toNat : Int) = _
  have h1 : BitVec.ofInt 64 18446744073709551615 = BitVec.allOnes 64 := by decide
  rw [h1, BitVec.ofInt_natCast, BitVec.ofNat_toNat, BitVec.setWidth_eq, BitVec.allOnes_xor]
  have := (~~~a).isLt
  rw [wrap_u64_]
  omega
def letterBV (s : Int) : BitVec 64 := if s = 0 then 12297829382473034410#64 else if s = 1 then 14757395258967641292#64 else if s = 2 then 17361641481138401520#64 else if s = 3 then 18374966859414961920#64 else if s = 4 then 18446462603027742720#64 else 18446744069414584320#64
theorem letterRows_all : ∀ s : Fin 6, impl_letterRows.f 65 ((s.val : Nat) : Int) = some ((letterBV ((s.val : Nat) : Int)).toNat : Int) := by decide +kernel
theorem letterRows_ev (s : Int) (h0 : 0 ≤ s) (h5 : s ≤ 5) : Ev (fun k => impl_letterRows.f k s) ((letterBV s).toNat : Int) := by
  have := letterRows_all ⟨s.toNat, by omega⟩
  rw [show ((s.toNat : Nat) : Int) = s by omega] at this
  exact Ev.of (impl_letterRows.mono s) (k := 65) this
theorem letterBV_bit : ∀ (s : Fin 6) (m : Fin 64), (letterBV ((s.val : Nat) : Int)).getLsbD m.val = m.val.testBit s.val := by decide +kernel
def opV (s : Int) (a b : BitVec 64) : BitVec 64 := if s = -2 then a &&& b else if s = -3 then a ||| b else ~~~a ||| b
def rowsE (f : List Int) : Option (List (BitVec 64)) := evalS letterBV (fun x => ~~~x) opV f []
/-- The rows that rowsOf answers with. -/
def rowsBV (f : List Int) : BitVec 64 := match rowsE f with | some st => st.getLastD 0#64 | none => 0#64
theorem rd_snoc (x : Int) (l : List Int) (i : Int) (h : i = l.length) : rd (l ++ [x]) i = x := by
  subst h
  unfold rd
  simp
theorem iset_snoc (x y : Int) (l : List Int) (i : Int) (h : i = l.length) : (l ++ [x]).set i.toNat y = l ++ [y] := by
  subst h
  rw [Int.toNat_natCast, List.set_append_right _ _ (Nat.le_refl _)]
  simp
theorem itake_snoc (x : Int) (l : List Int) (i : Int) (h : i = l.length) : (l ++ [x]).take i.toNat = l := by
  subst h
  simp
/-- The pile as the program has it: numbers, the top last. -/
def pileV (st : List (BitVec 64)) : List Int := (st.map fun x => (x.toNat : Int)).reverse
theorem pileV_cons (x : BitVec 64) (st : List (BitVec 64)) : pileV (x :: st) = pileV st ++ [(x.toNat : Int)] := by simp [pileV]
theorem pileV_length (st : List (BitVec 64)) : (pileV st).length = st.length := by simp [pileV]
theorem pileV_first (st : List (BitVec 64)) (h : st ≠ []) : rd (pileV st) 0 = ((st.getLastD 0#64).toNat : Int) := by
  unfold rd pileV
  cases st with
  | nil => exact absurd rfl h
  | cons a st =>
    rw [Int.toNat_zero, List.getD_eq_getElem?_getD, ← List.head?_eq_getElem?, List.head?_reverse, List.getLast?_map, List.getLast?_eq_some_getLast h]
    simp [List.getLastD]
def rowsAns (o : Option (List (BitVec 64))) : Int × Bool := match o with | some st => (((st.getLastD 0#64).toNat : Int), decide (st.length = 1)) | none => (0, false)
theorem rowsOf_l0 (xs : List Int) (hn : xs.length ≤ 24) : ∀ (zs : List Int) (i : Nat) (st : List (BitVec 64)), xs.drop i = zs → st.length ≤ i → (zs = [] → st ≠ []) → (st = [] → i = 0) →
    Ev (fun k => impl_rowsOf.l0 k (pileV st) xs xs.length (i : Int)) (rowsAns (evalS letterBV (fun x => ~~~x) opV zs st)) := by
  intro zs
  induction zs with
  | nil =>
    intro i st h hst hne _
    have := at_end h
    have hp := pileV_length st
    have : 0 < st.length := List.length_pos_iff.2 (hne rfl)
    refine Ev.step (fun k => by rw [impl_rowsOf.l0]) ?_
    refine ev_neg (by omega) (ev_pos (by omega) (ev_eq (Ev.now _) ?_))
    rw [pileV_first st (hne rfl), hp]
    simp only [evalS, rowsAns]
    refine Prod.ext rfl ?_
    rw [Bool.eq_iff_iff]
    simp
    omega
  | cons z zs ih =>
    intro i st h hst hne hi0
    obtain ⟨hi, hz, h2, _⟩ := at_drop h
    have hp := pileV_length st
    refine Ev.step (fun k => by rw [impl_rowsOf.l0]) ?_
    refine ev_pos (by omega) (ev_pos (by omega) (ev_pos (by omega) ?_))
    rw [rd_get hz, wrap_id (x := (i : Int) + 1) (by omega) (by omega)]
    unfold evalS
    refine ev_bind0 (inRange_eq _ _ _) (ev_ite (fun e0 => ?_) (fun e0 => ?_))
    · simp only [decide_eq_true_eq] at e0
      rw [if_pos e0]
      refine Ev.bind (letterRows_ev z e0.1 e0.2) (ev_pos (by omega) ?_)
      have ih2 := ih (i + 1) (letterBV z :: st) h2 (by first | (simp; done) | (simp; omega)) (by simp) (by simp)
      rw [pileV_cons] at ih2
      exact ih2
    · simp only [decide_eq_true_eq] at e0
      rw [if_neg e0]
      have no2 : ¬ (-4 ≤ z ∧ z ≤ -2) ∨ ¬ 2 ≤ st.length → Ev (fun k => impl_rowsOf.j2 k (pileV st) z ((pileV st).length : Int) xs xs.length (i : Int) false) ((0, false) : Int × Bool) := by
        intro _
        refine Ev.step (fun k => by rw [impl_rowsOf.j2]) ?_
        exact ev_neg (by decide) (Ev.now _)
      by_cases e1 : z = -1
      · rw [if_pos e1]
        refine ev_pos e1 ?_
        cases st with
        | nil =>
          rw [show decide (((pileV []).length : Int) ≥ 1) = false by rfl]
          refine Ev.step (fun k => by rw [impl_rowsOf.j1]) ?_
          refine ev_neg (by decide) (ev_bind0 (inRange_eq _ _ _) (ev_neg (by first | (simp; done) | (simp; omega)) (no2 (.inr (by simp)))))
        | cons x st2 =>
          rw [show decide (((pileV (x :: st2)).length : Int) ≥ 1) = true by rw [pileV_length]; simp; omega]
          refine Ev.step (fun k => by rw [impl_rowsOf.j1]) ?_
          refine ev_pos rfl ?_
          have ih2 := ih (i + 1) ((~~~x) :: st2) h2 (by simp only [List.length_cons] at hst ⊢; omega) (by simp) (by simp)
          simp only [List.length_cons] at hst hp
          rw [pileV_cons] at ih2
          rw [hp, wrap_id (x := ((st2.length + 1 : Nat) : Int) - 1) (by omega) (by omega), wrap_id (x := (i : Int) + 1) (by omega) (by omega)]
          refine ev_pos (by omega) (ev_pos (by omega) ?_)
          rw [pileV_cons, rd_snoc _ _ _ (by rw [pileV_length]; omega), bits_not_bv, iset_snoc _ _ _ _ (by rw [pileV_length]; omega)]
          exact ih2
      · rw [if_neg e1]
        refine ev_neg e1 (Ev.step (fun k => by rw [impl_rowsOf.j1]) ?_)
        refine ev_neg (by decide) (ev_bind0 (inRange_eq _ _ _) (ev_ite (fun e2 => ?_) (fun e2 => ?_)))
        · simp only [decide_eq_true_eq] at e2
          rw [if_pos e2]
          match st with
          | [] => exact no2 (.inr (by simp))
          | [x] => exact no2 (.inr (by simp))
          | b :: a :: st2 =>
            simp only [List.length_cons] at hst hp
            dsimp only
            rw [hp, show decide (((st2.length + 1 + 1 : Nat) : Int) ≥ 2) = true by simp; omega]
            refine Ev.step (fun k => by rw [impl_rowsOf.j2]) ?_
            refine ev_pos rfl ?_
            have ih2 := ih (i + 1) (opV z a b :: st2) h2 (by first | (simp; done) | (simp; omega)) (by simp) (by simp)
            rw [pileV_cons] at ih2
            rw [hp, wrap_id (x := ((st2.length + 1 + 1 : Nat) : Int) - 2) (by omega) (by omega), wrap_id (x := ((st2.length + 1 + 1 : Nat) : Int) - 1) (by omega) (by omega), wrap_id (x := (i : Int) + 1) (by omega) (by omega)]
            refine ev_pos (by omega) (ev_pos (by omega) (ev_pos (by omega) (ev_pos (by omega) (ev_pos (by omega) ?_))))
            have hb : rd (pileV (b :: a :: st2)) (((st2.length + 1 + 1 : Nat) : Int) - 1) = (b.toNat : Int) := by
              rw [pileV_cons]
              exact rd_snoc _ _ _ (by rw [pileV_length]; first | (simp; done) | (simp; omega))
            have ha : rd (pileV (b :: a :: st2)) (((st2.length + 1 + 1 : Nat) : Int) - 2) = (a.toNat : Int) := by
              rw [pileV_cons, pileV_cons, show ((st2.length + 1 + 1 : Nat) : Int) - 2 = ((pileV st2).length : Int) by rw [pileV_length]; omega]
              unfold rd
              simp
            have ht : (pileV (b :: a :: st2)).take (((st2.length + 1 + 1 : Nat) : Int) - 1).toNat = pileV st2 ++ [(a.toNat : Int)] := by
              rw [pileV_cons, itake_snoc _ _ _ (by rw [pileV_length]; first | (simp; done) | (simp; omega)), pileV_cons]
            rw [hb, ha, ht]
            refine ev_bind0 rfl ?_
            have hlt : ((st2.length + 1 + 1 : Nat) : Int) - 2 < ((pileV st2 ++ [(a.toNat : Int)]).length : Int) := by rw [List.length_append, pileV_length]; simp; omega
            have hset : ∀ y : Int, (pileV st2 ++ [(a.toNat : Int)]).set (((st2.length + 1 + 1 : Nat) : Int) - 2).toNat y = pileV st2 ++ [y] := fun y => iset_snoc _ _ _ _ (by rw [pileV_length]; omega)
            refine ev_ite (fun e3 => ev_pos hlt ?_) (fun e3 => ev_ite (fun e4 => ev_pos hlt ?_) (fun e4 => ev_pos hlt ?_))
            · rw [bits_and_bv, hset]
              rw [show opV z a b = a &&& b by simp [opV, e3]] at ih2 ⊢
              exact ih2
            · rw [bits_or_bv, hset]
              rw [show opV z a b = a ||| b by simp [opV, e4]] at ih2 ⊢
              exact ih2
            · rw [bits_not_bv, bits_or_bv, hset]
              rw [show opV z a b = ~~~a ||| b by simp [opV, e3, e4]] at ih2 ⊢
              exact ih2
        · simp only [decide_eq_true_eq] at e2
          rw [if_neg e2]
          exact no2 (.inl e2)
def shapeI (f : List Int) : Bool := decide ((rowsE f).map List.length = some 1) && decide (f.length ≤ 24)
theorem rowsOf_impl (f : List Int) (hn : f.length ≤ 9223372036854775807) : Ev (fun k => impl_rowsOf.f k f) ((if 1 ≤ f.length ∧ f.length ≤ 24 then (rowsAns (rowsE f)).1 else 0), shapeI f) := by
  unfold impl_rowsOf.f
  refine ev_bind0 (inRange_eq _ _ _) (ev_ite (fun e => ?_) (fun e => ev_eq (Ev.now _) ?_))
  · simp only [decide_eq_true_eq] at e
    rw [if_pos (by omega)]
    refine ev_eq (rowsOf_l0 f (by omega) f 0 [] rfl (by simp) (by intro hf; subst hf; simp at e) (fun _ => rfl)) ?_
    show rowsAns (rowsE f) = _
    refine Prod.ext rfl ?_
    unfold shapeI rowsAns
    cases hE : rowsE f with
    | none => simp
    | some st => simp; omega
  · simp only [decide_eq_true_eq] at e
    rw [if_neg (by omega)]
    refine Prod.ext rfl ?_
    unfold shapeI
    by_cases h0 : f = []
    · subst h0; simp [rowsE, evalS]
    · have : 1 ≤ f.length := List.length_pos_iff.2 h0
      simp [show ¬ f.length ≤ 24 by omega]
theorem rowsAns_bv (o : Option (List (BitVec 64))) : ∃ bv : BitVec 64, (rowsAns o).1 = (bv.toNat : Int) := by
  cases o with
  | none => exact ⟨0#64, rfl⟩
  | some st => exact ⟨_, rfl⟩
theorem shapeI_eq (f : List Int) : shapeI f = isFormula f := by
  unfold shapeI isFormula rowsE
  rw [evalS_shape]
  rfl
theorem letterBV_bit2 (s : Int) (h0 : 0 ≤ s) (h5 : s ≤ 5) (m : Nat) (hm : m < 64) : (letterBV s).getLsbD m = m.testBit s.toNat := by
  have := letterBV_bit ⟨s.toNat, by omega⟩ ⟨m, hm⟩
  rw [show ((s.toNat : Nat) : Int) = s by omega] at this
  exact this
/-- Bit m of the rows of a formula is its value in row m. -/
theorem rowsBV_bit (f : List Int) (hf : isFormula f = true) (m : Nat) (hm : m < 64) : (rowsBV f).getLsbD m = valB (fun k => m.testBit k) f := by
  have hmap := evalS_map (lit := letterBV) (no := fun x => ~~~x) (op := opV) (lit2 := fun s => m.testBit s.toNat) (no2 := fun x => !x) (op2 := opB) (fun x : BitVec 64 => x.getLsbD m)
    (fun s h0 h5 => letterBV_bit2 s h0 h5 m hm) (fun x => by simp [hm]) (fun s a b h1 h2 => by
      unfold opV opB
      split
      · simp
      · split
        · simp
        · simp [hm]) f []
  simp only [isFormula, Bool.and_eq_true, decide_eq_true_eq] at hf
  have hs := evalS_shape letterBV (fun x => ~~~x) opV f []
  rw [show shape f ([] : List (BitVec 64)).length = some 1 from hf.1] at hs
  unfold rowsBV valB rowsE
  cases hE : evalS letterBV (fun x => ~~~x) opV f [] with
  | none => rw [hE] at hs; simp at hs
  | some st =>
    rw [hE] at hs hmap
    match st, hs with
    | [x], _ =>
      rw [show evalS (fun s => m.testBit s.toNat) (fun x => !x) opB f [] = some [x.getLsbD m] from hmap]
      rfl
theorem rowsOf_ev (f : List Int) (hn : f.length ≤ 9223372036854775807) : ∃ bv : BitVec 64, Ev (fun k => impl_rowsOf.f k f) ((bv.toNat : Int), isFormula f) ∧ (isFormula f = true → ∀ m, m < 64 → bv.getLsbD m = valB (fun k => m.testBit k) f) := by
  have h := rowsOf_impl f hn
  rw [shapeI_eq] at h
  by_cases hf : isFormula f = true
  · have hf2 := hf
    simp only [isFormula, Bool.and_eq_true, decide_eq_true_eq] at hf2
    have h1 : 1 ≤ f.length := by
      cases f with
      | nil => simp [shape] at hf2
      | cons a r => simp
    rw [if_pos ⟨h1, hf2.2⟩] at h
    refine ⟨rowsBV f, ev_eq h ?_, fun _ m hm => rowsBV_bit f hf m hm⟩
    unfold rowsAns rowsBV
    cases rowsE f <;> rfl
  · by_cases h1 : 1 ≤ f.length ∧ f.length ≤ 24
    · rw [if_pos h1] at h
      obtain ⟨bv, hb⟩ := rowsAns_bv (rowsE f)
      rw [hb] at h
      exact ⟨bv, h, fun h2 => absurd h2 hf⟩
    · rw [if_neg h1] at h
      exact ⟨0#64, h, fun h2 => absurd h2 hf⟩
theorem rowsOf_rows (f : List Int) (hn : f.length ≤ 9223372036854775807) : ∃ bv : BitVec 64, Ev (fun k => impl_rowsOf.f k f) ((bv.toNat : Int), isFormula f) ∧ (isFormula f = true → ∀ m, m < 64 → bv.getLsbD m = rowVal m f) := by
  obtain ⟨bv, h, hb⟩ := rowsOf_ev f hn
  refine ⟨bv, h, fun hf m hm => ?_⟩
  rw [hb hf m hm, rowVal, value, hf, Bool.true_and]
theorem bv_ext64 {a b : BitVec 64} (h : ∀ m, m < 64 → a.getLsbD m = b.getLsbD m) : a = b := BitVec.eq_of_getLsbD_eq h
theorem cloneI_eq (xs : List Int) (h : xs.length ≤ 1048576) : slices_Clone_int_int.f xs = some xs := by
  unfold slices_Clone_int_int.f
  rw [Option.bind_some, if_pos (by simp only [List.length_nil]; omega)]
  rfl
theorem l11Ok_l0B (xs : List (List Int)) (hn : xs.length ≤ 1048577) (hi : ∀ y ∈ xs, y.length ≤ 1048576) : ∀ (zs : List (List Int)) (i : Nat), xs.drop i = zs → Ev (fun k => spec_l11Ok.l0 k xs (i : Int)) (zs.all isFormula) := by
  intro zs
  induction zs with
  | nil =>
    intro i h
    have := at_end h
    refine Ev.step (fun k => by rw [spec_l11Ok.l0]) ?_
    exact ev_neg (by omega) (Ev.now _)
  | cons z zs ih =>
    intro i h
    obtain ⟨hlt, hz, h2, _⟩ := at_drop h
    have hr : rd_L1 xs (i : Int) = z := getD_at hz
    refine Ev.step (fun k => by rw [spec_l11Ok.l0]) ?_
    refine ev_pos (by omega) (ev_pos (by omega) ?_)
    have := hi z (List.mem_of_getElem? hz)
    rw [hr, wrap_id (by omega) (by omega)]
    exact Ev.bind (isFormula_spec z (by omega)) (ev_ite (fun e => ev_eq (ih (i + 1) h2) (by simp [e])) (fun e => ev_eq (Ev.now _) (by simp [e])))
theorem l11Ok_evB (xs : List (List Int)) (hn : xs.length ≤ 1048577) (hi : ∀ y ∈ xs, y.length ≤ 1048576) : Ev (fun k => spec_l11Ok.f k xs) (xs.all isFormula) := by
  unfold spec_l11Ok.f
  exact l11Ok_l0B xs hn hi xs 0 rfl
theorem l11All_l0B (xs : List (List Int)) (m : Nat) (hm : m < 64) (hn : xs.length ≤ 1048577) (hi : ∀ y ∈ xs, y.length ≤ 1048576) : ∀ (zs : List (List Int)) (i : Nat), xs.drop i = zs → Ev (fun k => spec_l11All.l0 k xs (m : Int) (i : Int)) (zs.all (rowVal m)) := by
  intro zs
  induction zs with
  | nil =>
    intro i h
    have := at_end h
    refine Ev.step (fun k => by rw [spec_l11All.l0]) ?_
    exact ev_neg (by omega) (Ev.now _)
  | cons z zs ih =>
    intro i h
    obtain ⟨hlt, hz, h2, _⟩ := at_drop h
    have hr : rd_L1 xs (i : Int) = z := getD_at hz
    refine Ev.step (fun k => by rw [spec_l11All.l0]) ?_
    refine ev_pos (by omega) (ev_pos (by omega) ?_)
    have := hi z (List.mem_of_getElem? hz)
    rw [hr, wrap_id (by omega) (by omega)]
    exact Ev.bind (l11Row_ev m hm) (Ev.bind (value_row z m hm (by omega)) (ev_ite (fun e => ev_eq (ih (i + 1) h2) (by simp [e])) (fun e => ev_eq (Ev.now _) (by simp [e]))))
theorem l11All_evB (xs : List (List Int)) (m : Nat) (hm : m < 64) (hn : xs.length ≤ 1048577) (hi : ∀ y ∈ xs, y.length ≤ 1048576) : Ev (fun k => spec_l11All.f k xs (m : Int)) (xs.all (rowVal m)) := by
  unfold spec_l11All.f
  exact l11All_l0B xs m hm hn hi xs 0 rfl
theorem rowsOfAll_l0B (xs : List (List Int)) (hn : xs.length ≤ 1048577) (hi : ∀ y ∈ xs, y.length ≤ 1048576) : ∀ (zs : List (List Int)) (i : Nat) (a : BitVec 64) (ok : Bool), xs.drop i = zs → ∃ b : BitVec 64, Ev (fun k => impl_rowsOfAll.l0 k (a.toNat : Int) ok xs xs.length (i : Int)) ((b.toNat : Int), ok && zs.all isFormula) ∧ (zs.all isFormula = true → ∀ m, m < 64 → b.getLsbD m = (a.getLsbD m && zs.all (rowVal m))) := by
  intro zs
  induction zs with
  | nil =>
    intro i a ok h
    have := at_end h
    refine ⟨a, Ev.step (fun k => by rw [impl_rowsOfAll.l0]) ?_, by simp⟩
    exact ev_neg (by omega) (ev_eq (Ev.now _) (by simp))
  | cons z zs ih =>
    intro i a ok h
    obtain ⟨hlt, hz, h2, _⟩ := at_drop h
    have hr : rd_L1 xs (i : Int) = z := getD_at hz
    have := hi z (List.mem_of_getElem? hz)
    obtain ⟨bv, hb, hb2⟩ := rowsOf_rows z (by omega)
    obtain ⟨b, hev, hbit⟩ := ih (i + 1) (a &&& bv) (ok && isFormula z) h2
    refine ⟨b, Ev.step (fun k => by rw [impl_rowsOfAll.l0]) ?_, fun hok m hm => ?_⟩
    · refine ev_pos (by omega) (ev_pos (by omega) (ev_pos (by omega) ?_))
      rw [hr, wrap_id (by omega) (by omega)]
      refine Ev.bind hb ?_
      dsimp only
      rw [bits_and_bv]
      refine ev_ite (fun e => ev_eq ?_ (show ((b.toNat : Int), (ok && isFormula z) && zs.all isFormula) = _ by simp [Bool.and_assoc])) (fun e => ev_eq ?_ (show ((b.toNat : Int), (ok && isFormula z) && zs.all isFormula) = _ by simp [Bool.and_assoc]))
      · rw [e, Bool.true_and] at hev ⊢
        exact hev
      · have e : ok = false := by simpa using e
        rw [e, Bool.false_and] at hev ⊢
        exact hev
    · rw [List.all_cons, Bool.and_eq_true] at hok
      rw [hbit hok.2 m hm, BitVec.getLsbD_and, hb2 hok.1 m hm, List.all_cons, Bool.and_assoc]
theorem rowsOfAll_evB (xs : List (List Int)) (hn : xs.length ≤ 1048577) (hi : ∀ y ∈ xs, y.length ≤ 1048576) : ∃ b : BitVec 64, Ev (fun k => impl_rowsOfAll.f k xs) ((b.toNat : Int), xs.all isFormula) ∧ (xs.all isFormula = true → ∀ m, m < 64 → b.getLsbD m = xs.all (rowVal m)) := by
  obtain ⟨b, h, hb⟩ := rowsOfAll_l0B xs hn hi xs 0 (BitVec.allOnes 64) true rfl
  refine ⟨b, ?_, fun hok m hm => ?_⟩
  · unfold impl_rowsOfAll.f
    exact h
  · rw [hb hok m hm, BitVec.getLsbD_allOnes, show decide (m < 64) = true by simp [hm], Bool.true_and]
theorem bits_andNot_bv (a b : BitVec 64) : Go.bits .andNot .u64 (a.toNat : Int) (b.toNat : Int) = ((a &&& ~~~b).toNat : Int) := by
  show IntKind.u64.wrap ((BitVec.ofInt 64 (a.toNat : Int) &&& ~~~BitVec.ofInt 64 (b.toNat : Int)).toNat : Int) = _
  rw [BitVec.ofInt_natCast, BitVec.ofInt_natCast, BitVec.ofNat_toNat, BitVec.ofNat_toNat, BitVec.setWidth_eq, BitVec.setWidth_eq]
  have := (a &&& ~~~b).isLt
  rw [wrap_u64_]
  omega
theorem canHold_l0B (xs : List (List Int)) (hn : xs.length ≤ 1048577) (hi : ∀ y ∈ xs, y.length ≤ 1048576) : ∀ (d m : Nat), m + d = 64 → Ev (fun k => spec_CanHold.l0 k xs (m : Int)) (xs.all isFormula && (List.range d).any (fun j => xs.all (rowVal (m + j)))) := by
  intro d
  induction d with
  | zero =>
    intro m h
    refine Ev.step (fun k => by rw [spec_CanHold.l0]) ?_
    refine ev_neg (by omega) (Ev.step (fun k => by rw [spec_CanHold.j1]) (ev_neg (by decide) (ev_eq (Ev.now _) (by simp))))
  | succ d ih =>
    intro m h
    refine Ev.step (fun k => by rw [spec_CanHold.l0]) ?_
    refine ev_pos (by omega) (Ev.bind (l11Ok_evB xs hn hi) (Ev.step (fun k => by rw [spec_CanHold.j1]) ?_))
    rw [wrap_id (by omega) (by omega), List.range_succ_eq_map, List.any_cons, List.any_map]
    have e2 : ((fun j => xs.all (rowVal (m + j))) ∘ Nat.succ) = fun j => xs.all (rowVal (m + 1 + j)) := by
      funext j
      simp only [Function.comp]
      rw [show m + j.succ = m + 1 + j by omega]
    rw [e2]
    refine ev_ite (fun e => Ev.bind (l11All_evB xs m (by omega) hn hi) (ev_ite (fun e3 => ev_eq (Ev.now _) ?_) (fun e3 => ev_eq (ih (m + 1) (by omega)) ?_))) (fun e => ev_eq (Ev.now _) ?_)
    · rw [e, show m + 0 = m from rfl, e3]; rfl
    · rw [show m + 0 = m from rfl, show xs.all (rowVal m) = false by simpa using e3, Bool.false_or]
    · rw [show xs.all isFormula = false by simpa using e, Bool.false_and]
theorem canHold_specB (xs : List (List Int)) (hn : xs.length ≤ 1048577) (hi : ∀ y ∈ xs, y.length ≤ 1048576) : Ev (fun k => spec_CanHold.f k xs) (xs.all isFormula && (List.range 64).any (fun j => xs.all (rowVal j))) := by
  unfold spec_CanHold.f
  refine ev_eq (canHold_l0B xs hn hi 64 0 rfl) ?_
  simp
theorem canHold_implB (xs : List (List Int)) (hn : xs.length ≤ 1048577) (hi : ∀ y ∈ xs, y.length ≤ 1048576) : Ev (fun k => impl_CanHold.f k xs) (xs.all isFormula && (List.range 64).any (fun j => xs.all (rowVal j))) := by
  obtain ⟨b, h, hb⟩ := rowsOfAll_evB xs hn hi
  unfold impl_CanHold.f
  refine Ev.bind h (ev_ite (fun e => ev_eq (Ev.now _) ?_) (fun e => ev_eq (Ev.now _) ?_))
  · dsimp only at e
    dsimp only
    rw [e, Bool.true_and, Bool.eq_iff_iff, bne_iff_ne, List.any_eq_true]
    constructor
    · intro h0
      have hz : b ≠ 0#64 := by rintro rfl; exact h0 rfl
      refine Classical.byContradiction fun hno => hz (bv_ext64 fun m hm => ?_)
      rw [BitVec.getLsbD_zero]
      cases hbm : b.getLsbD m with
      | false => rfl
      | true => exact absurd ⟨m, List.mem_range.2 hm, by rw [← hb e m hm, hbm]⟩ hno
    · rintro ⟨m, hm, hall⟩ h0
      have hz : b = 0#64 := BitVec.eq_of_toNat_eq (by simpa using h0)
      have := hb e m (List.mem_range.1 hm)
      rw [hall, hz] at this
      simp at this
  · dsimp only at e
    rw [show xs.all isFormula = false by simpa using e, Bool.false_and]
theorem canHold_impl (xs : List (List Int)) (hn : xs.length ≤ 1048576) (hi : ∀ y ∈ xs, y.length ≤ 1048576) : Ev (fun k => impl_CanHold.f k xs) (xs.all isFormula && (List.range 64).any (fun j => xs.all (rowVal j))) := canHold_implB xs (by omega) hi
def followsB (xs : List (List Int)) (f : List Int) (m : Nat) : Bool := !(xs.all (rowVal m)) || rowVal m f
theorem follows_implB (xs : List (List Int)) (f : List Int) (hf : f.length ≤ 1048576) (hn : xs.length ≤ 1048577) (hi : ∀ y ∈ xs, y.length ≤ 1048576) : Ev (fun k => impl_Follows.f k xs f) ((List.range 64).all (followsB xs f) && (xs.all isFormula && isFormula f)) := by
  obtain ⟨a, ha, ha2⟩ := rowsOfAll_evB xs hn hi
  obtain ⟨b, hb, hb2⟩ := rowsOf_rows f (by omega)
  unfold impl_Follows.f
  refine Ev.bind ha (Ev.bind hb (ev_ite (fun e => ev_ite (fun e2 => ev_eq (Ev.now _) ?_) (fun e2 => ev_eq (Ev.now _) ?_)) (fun e => ev_eq (Ev.now _) ?_)))
  · dsimp only at e e2
    dsimp only
    rw [e, e2, Bool.true_and, Bool.and_true, bits_andNot_bv, Bool.eq_iff_iff, beq_iff_eq, List.all_eq_true]
    constructor
    · intro h m hm
      have hm := List.mem_range.1 hm
      have hz : a &&& ~~~b = 0#64 := BitVec.eq_of_toNat_eq (by simpa using h)
      have hbit : (a &&& ~~~b).getLsbD m = false := by rw [hz]; simp
      rw [BitVec.getLsbD_and, BitVec.getLsbD_not, ha2 e m hm, hb2 e2 m hm] at hbit
      unfold followsB
      revert hbit
      cases xs.all (rowVal m) <;> cases rowVal m f <;> simp [hm]
    · intro h
      have hz : a &&& ~~~b = 0#64 := bv_ext64 fun m hm => by
        have := h m (List.mem_range.2 hm)
        rw [BitVec.getLsbD_and, BitVec.getLsbD_not, ha2 e m hm, hb2 e2 m hm]
        unfold followsB at this
        revert this
        cases xs.all (rowVal m) <;> cases rowVal m f <;> simp
      rw [hz]
      rfl
  · dsimp only at e2
    rw [show isFormula f = false by simpa using e2]
    simp
  · dsimp only at e
    rw [show xs.all isFormula = false by simpa using e]
    simp
theorem follows_impl (xs : List (List Int)) (f : List Int) (hf : f.length ≤ 1048576) (hn : xs.length ≤ 1048576) (hi : ∀ y ∈ xs, y.length ≤ 1048576) : Ev (fun k => impl_Follows.f k xs f) ((List.range 64).all (followsB xs f) && (xs.all isFormula && isFormula f)) := follows_implB xs f hf (by omega) hi
/-- A number by its digits, each of w bits, the lowest first. -/
def num (w : Nat) : List Nat → Nat
  | [] => 0
  | d :: r => d + 2 ^ w * num w r
def pairUp : List Nat → List Nat
  | a :: b :: r => (a + b) :: pairUp r
  | _ => []
def evs : List Nat → List Nat
  | a :: _ :: r => a :: evs r
  | _ => []
def ods : List Nat → List Nat
  | _ :: b :: r => b :: ods r
  | _ => []
def adj : List Nat → List Nat
  | a :: b :: r => (a + b) :: adj (b :: r)
  | [a] => [a]
  | [] => []
theorem land_split (n a b c d : Nat) (ha : a < 2 ^ n) (hc : c < 2 ^ n) : (a + 2 ^ n * b) &&& (c + 2 ^ n * d) = (a &&& c) + 2 ^ n * (b &&& d) := by
  have hp : 0 < 2 ^ n := Nat.two_pow_pos n
  have hm : ((a + 2 ^ n * b) &&& (c + 2 ^ n * d)) % 2 ^ n = a &&& c := by
    rw [Nat.and_mod_two_pow, Nat.add_mul_mod_self_left, Nat.add_mul_mod_self_left, Nat.mod_eq_of_lt ha, Nat.mod_eq_of_lt hc]
  have hd : ((a + 2 ^ n * b) &&& (c + 2 ^ n * d)) / 2 ^ n = b &&& d := by
    rw [Nat.and_div_two_pow, Nat.add_mul_div_left _ _ hp, Nat.add_mul_div_left _ _ hp, Nat.div_eq_of_lt ha, Nat.div_eq_of_lt hc, Nat.zero_add, Nat.zero_add]
  rw [← Nat.mod_add_div ((a + 2 ^ n * b) &&& (c + 2 ^ n * d)) (2 ^ n), hm, hd]
def maskN (w n : Nat) : Nat := num (2 * w) (List.replicate n (2 ^ w - 1))
theorem pow_dbl (w : Nat) : 2 ^ (2 * w) = 2 ^ w * 2 ^ w := by rw [Nat.two_mul, Nat.pow_add]
theorem digit_lt (w a b : Nat) (ha : a < 2 ^ w) (hb : b < 2 ^ w) : a + 2 ^ w * b < 2 ^ (2 * w) := by
  rw [pow_dbl]
  calc a + 2 ^ w * b < 2 ^ w + 2 ^ w * b := by omega
    _ = 2 ^ w * (b + 1) := by rw [Nat.mul_add, Nat.mul_one, Nat.add_comm]
    _ ≤ 2 ^ w * 2 ^ w := Nat.mul_le_mul_left _ hb
theorem low_mask (w a b : Nat) (ha : a < 2 ^ w) : (a + 2 ^ w * b) &&& (2 ^ w - 1) = a := by
  rw [Nat.and_two_pow_sub_one_eq_mod, Nat.add_mul_mod_self_left, Nat.mod_eq_of_lt ha]
theorem mask_lt (w : Nat) : 2 ^ w - 1 < 2 ^ (2 * w) := by
  have h1 := Nat.two_pow_pos w
  have h2 : 2 ^ w ≤ 2 ^ (2 * w) := Nat.pow_le_pow_right (by decide) (by omega)
  omega
theorem land_evs (w : Nat) : ∀ (n : Nat) (l : List Nat), l.length = 2 * n → (∀ x ∈ l, x < 2 ^ w) → num w l &&& maskN w n = num (2 * w) (evs l) := by
  intro n
  induction n with
  | zero =>
    intro l h _
    have : l = [] := List.eq_nil_of_length_eq_zero (by omega)
    subst this
    simp [num, evs]
  | succ n ih =>
    intro l h hl
    match l, h with
    | a :: b :: r, h =>
      have ha := hl a (by simp)
      have hb := hl b (by simp)
      have e1 : num w (a :: b :: r) = (a + 2 ^ w * b) + 2 ^ (2 * w) * num w r := by
        simp only [num]
        rw [pow_dbl, Nat.mul_add, Nat.mul_assoc]
        omega
      have e2 : maskN w (n + 1) = (2 ^ w - 1) + 2 ^ (2 * w) * maskN w n := rfl
      rw [e1, e2, land_split _ _ _ _ _ (digit_lt w a b ha hb) (mask_lt w), low_mask w a b ha, ih r (by simp only [List.length_cons] at h; omega) (fun x hx => hl x (by simp [hx]))]
      rfl
theorem land_ods (w : Nat) : ∀ (n : Nat) (l : List Nat), l.length = 2 * n → (∀ x ∈ l, x < 2 ^ w) → num w l / 2 ^ w &&& maskN w n = num (2 * w) (ods l) := by
  intro n
  induction n with
  | zero =>
    intro l h _
    have : l = [] := List.eq_nil_of_length_eq_zero (by omega)
    subst this
    simp [num, ods]
  | succ n ih =>
    intro l h hl
    match l, h with
    | a :: b :: r, h =>
      have ha := hl a (by simp)
      have hb := hl b (by simp)
      have hp := Nat.two_pow_pos w
      have e1 : num w (a :: b :: r) / 2 ^ w = (b + 2 ^ w * (num w r % 2 ^ w)) + 2 ^ (2 * w) * (num w r / 2 ^ w) := by
        simp only [num]
        rw [Nat.add_mul_div_left _ _ hp, Nat.div_eq_of_lt ha, Nat.zero_add, pow_dbl, Nat.mul_assoc, Nat.add_assoc, ← Nat.mul_add, Nat.mod_add_div]
      have e2 : maskN w (n + 1) = (2 ^ w - 1) + 2 ^ (2 * w) * maskN w n := rfl
      rw [e1, e2, land_split _ _ _ _ _ (digit_lt w b _ hb (Nat.mod_lt _ hp)) (mask_lt w), low_mask w b _ hb, ih r (by simp only [List.length_cons] at h; omega) (fun x hx => hl x (by simp [hx]))]
      rfl
theorem evs_ods (w : Nat) : ∀ (l : List Nat), num w (ods l) + num w (evs l) = num w (pairUp l)
  | [] => rfl
  | [_] => rfl
  | a :: b :: r => by
    simp only [ods, evs, pairUp, num]
    rw [← evs_ods w r, Nat.mul_add]
    omega
theorem level (w n : Nat) (l : List Nat) (h : l.length = 2 * n) (hl : ∀ x ∈ l, x < 2 ^ w) : (num w l / 2 ^ w &&& maskN w n) + (num w l &&& maskN w n) = num (2 * w) (pairUp l) := by
  rw [land_evs w n l h hl, land_ods w n l h hl, evs_ods]
theorem num_adj (w : Nat) : ∀ (l : List Nat), (∀ x ∈ l, x < 2 ^ w) → num w (adj l) = num w l / 2 ^ w + num w l
  | [], _ => by simp [adj, num]
  | [a], hl => by
    have := hl a (by simp)
    simp [adj, num, Nat.div_eq_of_lt this]
  | a :: b :: r, hl => by
    have ha := hl a (by simp)
    have hp := Nat.two_pow_pos w
    have ih := num_adj w (b :: r) (fun x hx => hl x (List.mem_cons_of_mem _ hx))
    rw [adj, num, ih]
    have e1 : num w (a :: b :: r) = a + 2 ^ w * num w (b :: r) := rfl
    rw [e1, Nat.add_mul_div_left _ _ hp, Nat.div_eq_of_lt ha, Nat.zero_add, Nat.mul_add]
    have e2 : num w (b :: r) = b + 2 ^ w * (num w (b :: r) / 2 ^ w) := by
      have hb := hl b (by simp)
      have e3 : num w (b :: r) = b + 2 ^ w * num w r := rfl
      rw [e3, Nat.add_mul_div_left _ _ hp, Nat.div_eq_of_lt hb, Nat.zero_add]
    omega
theorem adj_length : ∀ l : List Nat, (adj l).length = l.length
  | [] => rfl
  | [_] => rfl
  | a :: b :: r => by
    rw [adj, List.length_cons, adj_length (b :: r)]
    rfl
theorem evs_adj : ∀ (n : Nat) (l : List Nat), l.length = 2 * n → evs (adj l) = pairUp l
  | 0, [], _ => rfl
  | n + 1, [a, b], _ => rfl
  | n + 1, a :: b :: c :: r, h => by
    rw [adj, adj, evs, pairUp, evs_adj n (c :: r) (by simp only [List.length_cons] at h ⊢; omega)]
theorem adj_le (m : Nat) : ∀ (l : List Nat), (∀ x ∈ l, x ≤ m) → ∀ x ∈ adj l, x ≤ 2 * m
  | [], _ => by simp [adj]
  | [a], hl => by
    intro x hx
    have := hl a (by simp)
    simp [adj] at hx
    omega
  | a :: b :: r, hl => by
    intro x hx
    rw [adj] at hx
    rcases List.mem_cons.1 hx with rfl | hx
    · have := hl a (by simp); have := hl b (by simp); omega
    · exact adj_le m (b :: r) (fun y hy => hl y (List.mem_cons_of_mem _ hy)) x hx
theorem pairUp_length : ∀ (n : Nat) (l : List Nat), l.length = 2 * n → (pairUp l).length = n
  | 0, [], _ => rfl
  | n + 1, a :: b :: r, h => by rw [pairUp, List.length_cons, pairUp_length n r (by simp only [List.length_cons] at h; omega)]
theorem pairUp_le (m : Nat) : ∀ (l : List Nat), (∀ x ∈ l, x ≤ m) → ∀ x ∈ pairUp l, x ≤ 2 * m
  | [], _ => by simp [pairUp]
  | [a], _ => by simp [pairUp]
  | a :: b :: r, hl => by
    intro x hx
    rw [pairUp] at hx
    rcases List.mem_cons.1 hx with rfl | hx
    · have := hl a (by simp); have := hl b (by simp); omega
    · exact pairUp_le m r (fun y hy => hl y (by simp [hy])) x hx
theorem pairUp_sum : ∀ (n : Nat) (l : List Nat), l.length = 2 * n → (pairUp l).sum = l.sum
  | 0, [], _ => rfl
  | n + 1, a :: b :: r, h => by
    rw [pairUp, List.sum_cons, List.sum_cons, List.sum_cons, pairUp_sum n r (by simp only [List.length_cons] at h; omega), Nat.add_assoc]
def bitsOf : Nat → Nat → List Nat
  | 0, _ => []
  | n + 1, x => (x % 2) :: bitsOf n (x / 2)
theorem bitsOf_length : ∀ n x, (bitsOf n x).length = n
  | 0, _ => rfl
  | n + 1, x => by rw [bitsOf, List.length_cons, bitsOf_length]
theorem bitsOf_le : ∀ n x, ∀ y ∈ bitsOf n x, y ≤ 1
  | 0, _ => by simp [bitsOf]
  | n + 1, x => by
    intro y hy
    rw [bitsOf] at hy
    rcases List.mem_cons.1 hy with rfl | hy
    · omega
    · exact bitsOf_le n _ y hy
theorem num_bitsOf : ∀ n x, x < 2 ^ n → num 1 (bitsOf n x) = x
  | 0, x, h => by
    have : x = 0 := by simpa using h
    subst this; rfl
  | n + 1, x, h => by
    rw [bitsOf, num, num_bitsOf n (x / 2) (by rw [Nat.pow_succ] at h; omega)]
    omega
theorem bitsOf_sum : ∀ n x, (bitsOf n x).sum = (List.range n).countP fun j => x.testBit j
  | 0, _ => rfl
  | n + 1, x => by
    rw [bitsOf, List.sum_cons, bitsOf_sum n (x / 2), List.range_succ_eq_map, List.countP_cons, List.countP_map]
    have e : ((fun j => x.testBit j) ∘ Nat.succ) = fun j => (x / 2).testBit j := by
      funext j
      simp only [Function.comp]
      rw [Nat.succ_eq_add_one, Nat.testBit_succ]
    rw [e]
    by_cases h : x % 2 = 1
    · rw [h, if_pos (by simp [Nat.testBit_zero, h])]
      omega
    · rw [if_neg (by simp [Nat.testBit_zero, h])]
      omega
theorem bits_and_nat (a b : Nat) (ha : a < 18446744073709551616) (hb : b < 18446744073709551616) : Go.bits .and .u64 (a : Int) (b : Int) = ((a &&& b : Nat) : Int) := by
  have h := bits_and_bv (BitVec.ofNat 64 a) (BitVec.ofNat 64 b)
  rw [BitVec.toNat_and, BitVec.toNat_ofNat, BitVec.toNat_ofNat, Nat.mod_eq_of_lt ha, Nat.mod_eq_of_lt hb] at h
  exact h
theorem bits_and_127 (s : Nat) (h : s < 9223372036854775808) : Go.bits .and .i64 (wrap64 (s : Int)) 127 = ((s % 128 : Nat) : Int) := by
  rw [wrap_id (by omega) (by omega)]
  show IntKind.i64.wrap ((BitVec.ofInt 64 (s : Int) &&& BitVec.ofInt 64 127).toNat : Int) = _
  have e : (BitVec.ofInt 64 (s : Int) &&& BitVec.ofInt 64 127).toNat = s % 128 := by
    rw [BitVec.ofInt_natCast, show BitVec.ofInt 64 127 = BitVec.ofNat 64 127 from rfl, BitVec.toNat_and, BitVec.toNat_ofNat, BitVec.toNat_ofNat, Nat.mod_eq_of_lt (show s < 2 ^ 64 by omega), Nat.mod_eq_of_lt (show 127 < 2 ^ 64 by decide), show (127 : Nat) = 2 ^ 7 - 1 from rfl, Nat.and_two_pow_sub_one_eq_mod]
  rw [e]
  simp only [i64_w]
  exact wrap_id (x := ((s % 128 : Nat) : Int)) (by omega) (by omega)
theorem uwrap_id (n : Nat) (h : n < 18446744073709551616) : IntKind.u64.wrap (n : Int) = (n : Int) := by
  rw [wrap_u64_]
  omega
theorem num_lt (w : Nat) : ∀ (l : List Nat), (∀ x ∈ l, x < 2 ^ w) → num w l < 2 ^ (w * l.length)
  | [], _ => by simp [num]
  | a :: r, hl => by
    have ha := hl a (by simp)
    have ih := num_lt w r (fun x hx => hl x (List.mem_cons_of_mem _ hx))
    rw [num, List.length_cons, Nat.mul_add, Nat.mul_one, Nat.add_comm (w * r.length) w, Nat.pow_add]
    calc a + 2 ^ w * num w r < 2 ^ w + 2 ^ w * num w r := by omega
      _ = 2 ^ w * (num w r + 1) := by rw [Nat.mul_add, Nat.mul_one, Nat.add_comm]
      _ ≤ 2 ^ w * 2 ^ (w * r.length) := Nat.mul_le_mul_left _ ih
theorem low_sum (p : List Nat) (hp : p.length = 8) (hl : ∀ x ∈ p, x ≤ 8) (y s1 s2 s3 : Nat) (hy : y = num 8 p) (h1 : s1 = y + y / 256) (h2 : s2 = s1 + s1 / 65536) (h3 : s3 = s2 + s2 / 4294967296) : s1 < 9223372036854775808 ∧ s2 < 9223372036854775808 ∧ s3 < 9223372036854775808 ∧ s3 % 128 = p.sum := by
  match p, hp with
  | [a, b, c, d, e, f, g, h], _ =>
    have := hl a (by simp); have := hl b (by simp); have := hl c (by simp); have := hl d (by simp)
    have := hl e (by simp); have := hl f (by simp); have := hl g (by simp); have := hl h (by simp)
    have hy2 : y = a + 256 * (b + 256 * (c + 256 * (d + 256 * (e + 256 * (f + 256 * (g + 256 * (h + 256 * 0))))))) := hy
    have hs : [a, b, c, d, e, f, g, h].sum = a + (b + (c + (d + (e + (f + (g + (h + 0))))))) := rfl
    rw [hs]
    clear hs
    have q1 : y / 256 = b + 256 * (c + 256 * (d + 256 * (e + 256 * (f + 256 * (g + 256 * h))))) := by omega
    have r1 : s1 = (a + b) + 256 * ((b + c) + 256 * ((c + d) + 256 * ((d + e) + 256 * ((e + f) + 256 * ((f + g) + 256 * ((g + h) + 256 * h)))))) := by omega
    clear h1 q1 hy2 hy
    have q2 : s1 / 65536 = (c + d) + 256 * ((d + e) + 256 * ((e + f) + 256 * ((f + g) + 256 * ((g + h) + 256 * h)))) := by omega
    have r2 : s2 = (a + b + c + d) + 256 * ((b + c + d + e) + 256 * ((c + d + e + f) + 256 * ((d + e + f + g) + 256 * ((e + f + g + h) + 256 * ((f + g + h) + 256 * ((g + h) + 256 * h)))))) := by omega
    have z1 : s1 < 9223372036854775808 := by omega
    clear h2 q2 r1
    have q3 : s2 / 4294967296 = (e + f + g + h) + 256 * ((f + g + h) + 256 * ((g + h) + 256 * h)) := by omega
    have r3 : s3 = (a + b + c + d + e + f + g + h) + 256 * ((b + c + d + e + f + g + h) + 256 * ((c + d + e + f + g + h) + 256 * ((d + e + f + g + h) + 256 * ((e + f + g + h) + 256 * ((f + g + h) + 256 * ((g + h) + 256 * h)))))) := by omega
    have z2 : s2 < 9223372036854775808 := by omega
    clear h3 q3 r2
    refine ⟨z1, z2, by omega, by omega⟩
theorem onesCount (x : Nat) (hx : x < 18446744073709551616) : bits_OnesCount64.f (x : Int) = some (((List.range 64).countP fun j => x.testBit j : Nat) : Int) := by
  have hb := bitsOf_length 64 x
  have hb1 := bitsOf_le 64 x
  have hb2 := num_bitsOf 64 x hx
  generalize hl : bitsOf 64 x = l at hb hb1 hb2
  have l1 : (pairUp l).length = 32 := pairUp_length 32 l hb
  have m1 := pairUp_le 1 l hb1
  have l2 : (pairUp (pairUp l)).length = 16 := pairUp_length 16 _ l1
  have m2 := pairUp_le 2 _ m1
  have l3 : (pairUp (pairUp (pairUp l))).length = 8 := pairUp_length 8 _ l2
  have m3 := pairUp_le 4 _ m2
  have b1 : num 2 (pairUp l) < 18446744073709551616 := by
    have := num_lt 2 (pairUp l) (fun z hz => by have := m1 z hz; omega)
    rw [l1] at this
    exact this
  have b2 : num 4 (pairUp (pairUp l)) < 18446744073709551616 := by
    have := num_lt 4 (pairUp (pairUp l)) (fun z hz => by have := m2 z hz; omega)
    rw [l2] at this
    exact this
  have v1 := level 1 32 l hb (fun z hz => by have := hb1 z hz; omega)
  have v2 := level 2 16 _ l1 (fun z hz => by have := m1 z hz; omega)
  have k1 : maskN 1 32 = 6148914691236517205 := by decide +kernel
  have k2 : maskN 2 16 = 3689348814741910323 := by decide +kernel
  have k3 : maskN 4 8 = 1085102592571150095 := by decide +kernel
  rw [hb2, k1, show 2 ^ 1 = 2 from rfl, show 2 * 1 = 2 from rfl] at v1
  rw [k2, show 2 ^ 2 = 4 from rfl, show 2 * 2 = 4 from rfl] at v2
  have hadj : ∀ z ∈ adj (pairUp (pairUp l)), z < 2 ^ 4 := fun z hz => by have := adj_le 4 _ m2 z hz; omega
  have v3 := land_evs 4 8 (adj (pairUp (pairUp l))) (by rw [adj_length, l2]) hadj
  rw [evs_adj 8 _ l2, k3, num_adj 4 _ (fun z hz => by have := m2 z hz; omega), show 2 ^ 4 = 16 from rfl, show 2 * 4 = 8 from rfl] at v3
  have ba : num 4 (pairUp (pairUp l)) / 16 + num 4 (pairUp (pairUp l)) < 18446744073709551616 := by
    have := num_lt 4 _ hadj
    rw [adj_length, l2, num_adj 4 _ (fun z hz => by have := m2 z hz; omega)] at this
    exact this
  have e1 : IntKind.u64.wrap ((Go.bits .and .u64 ((x : Int) / 2) 6148914691236517205) + (Go.bits .and .u64 (x : Int) 6148914691236517205)) = (num 2 (pairUp l) : Int) := by
    rw [show (x : Int) / 2 = ((x / 2 : Nat) : Int) by omega, show (6148914691236517205 : Int) = ((6148914691236517205 : Nat) : Int) from rfl, bits_and_nat _ _ (by omega) (by decide), bits_and_nat _ _ hx (by decide), ← Int.natCast_add, v1]
    exact uwrap_id _ b1
  generalize num 2 (pairUp l) = n1 at *
  have e2 : IntKind.u64.wrap ((Go.bits .and .u64 ((n1 : Int) / 4) 3689348814741910323) + (Go.bits .and .u64 (n1 : Int) 3689348814741910323)) = (num 4 (pairUp (pairUp l)) : Int) := by
    rw [show (n1 : Int) / 4 = ((n1 / 4 : Nat) : Int) by omega, show (3689348814741910323 : Int) = ((3689348814741910323 : Nat) : Int) from rfl, bits_and_nat _ _ (by omega) (by decide), bits_and_nat _ _ b1 (by decide), ← Int.natCast_add, v2]
    exact uwrap_id _ b2
  generalize num 4 (pairUp (pairUp l)) = n2 at *
  have e3 : Go.bits .and .u64 (IntKind.u64.wrap (((n2 : Int) / 16) + (n2 : Int))) 1085102592571150095 = (num 8 (pairUp (pairUp (pairUp l))) : Int) := by
    rw [show (n2 : Int) / 16 = ((n2 / 16 : Nat) : Int) by omega, ← Int.natCast_add, uwrap_id _ ba, show (1085102592571150095 : Int) = ((1085102592571150095 : Nat) : Int) from rfl, bits_and_nat _ _ ba (by decide), v3]
  obtain ⟨c1, c2, c3, c4⟩ := low_sum _ l3 (fun z hz => by have := m3 z hz; omega) _ _ _ _ rfl rfl rfl rfl
  generalize num 8 (pairUp (pairUp (pairUp l))) = y at *
  unfold bits_OnesCount64.f
  rw [e1, e2, e3, show (y : Int) + (y : Int) / 256 = ((y + y / 256 : Nat) : Int) by omega, uwrap_id _ (by omega)]
  generalize y + y / 256 = s1 at *
  rw [show (s1 : Int) + (s1 : Int) / 65536 = ((s1 + s1 / 65536 : Nat) : Int) by omega, uwrap_id _ (by omega)]
  generalize s1 + s1 / 65536 = s2 at *
  rw [show (s2 : Int) + (s2 : Int) / 4294967296 = ((s2 + s2 / 4294967296 : Nat) : Int) by omega, uwrap_id _ (by omega), bits_and_127 _ c3, c4, pairUp_sum 8 _ l2, pairUp_sum 16 _ l1, pairUp_sum 32 _ hb, ← hl, bitsOf_sum]

/-- How many numbers lie in rows. -/
def lenAll : List (List Int) → Nat
  | [] => 0
  | y :: ys => y.length + lenAll ys
theorem concat_l1 (xs : List (List Int)) (hn : xs.length ≤ 1048576) : ∀ (zs : List (List Int)) (i : Nat) (acc : List Int), xs.drop i = zs → acc.length + lenAll zs < 17592186044416 → Ev (fun k => slices_Concat_int_int.l1 k acc xs (xs.length : Int) (i : Int)) (acc ++ zs.flatten) := by
  intro zs
  induction zs with
  | nil =>
    intro i acc h hl
    have := at_end h
    refine Ev.step (fun k => by rw [slices_Concat_int_int.l1]) ?_
    exact ev_neg (by omega) (ev_eq (Ev.now _) (by simp))
  | cons z zs ih =>
    intro i acc h hl
    obtain ⟨hlt, hz, h2, _⟩ := at_drop h
    have hr : rd_L1 xs (i : Int) = z := getD_at hz
    simp only [lenAll] at hl
    refine Ev.step (fun k => by rw [slices_Concat_int_int.l1]) ?_
    refine ev_pos (by omega) (ev_pos (by omega) (ev_pos (by omega) ?_))
    rw [hr, wrap_id (x := (i : Int) + 1) (by omega) (by omega)]
    refine ev_pos (by omega) ?_
    refine ev_eq (ih (i + 1) (acc ++ z) h2 (by rw [List.length_append]; omega)) (by simp)
theorem concat_l0 (xs : List (List Int)) (hn : xs.length ≤ 1048576) (hp : 0 < lenAll xs) (hm : lenAll xs < 17592186044416) : ∀ (zs : List (List Int)) (i : Nat) (s : Nat), xs.drop i = zs → s + lenAll zs = lenAll xs → Ev (fun k => slices_Concat_int_int.l0 k xs (s : Int) xs (xs.length : Int) (i : Int)) xs.flatten := by
  intro zs
  induction zs with
  | nil =>
    intro i s h hs
    have := at_end h
    simp only [lenAll] at hs
    refine Ev.step (fun k => by rw [slices_Concat_int_int.l0]) ?_
    refine ev_neg (by omega) (ev_bind0 (a := ([] : List Int)) ?_ ?_)
    · unfold slices_Grow_int_int.f
      rw [if_pos (show ([] : List Int).length = 0 from rfl), if_pos (by omega), if_pos (by omega)]
    · simpa using concat_l1 xs hn xs 0 [] rfl (by simp only [List.length_nil]; omega)
  | cons z zs ih =>
    intro i s h hs
    obtain ⟨hlt, hz, h2, _⟩ := at_drop h
    have hr : rd_L1 xs (i : Int) = z := getD_at hz
    simp only [lenAll] at hs
    refine Ev.step (fun k => by rw [slices_Concat_int_int.l0]) ?_
    refine ev_pos (by omega) (ev_pos (by omega) (ev_pos (by omega) ?_))
    rw [hr, wrap_id (x := (i : Int) + 1) (by omega) (by omega), wrap_id (x := (s : Int) + (z.length : Int)) (by omega) (by omega)]
    refine ev_neg (by omega) ?_
    have := ih (i + 1) (s + z.length) h2 (by omega)
    rw [show ((s + z.length : Nat) : Int) = (s : Int) + (z.length : Int) by omega] at this
    exact this
theorem concat_ev (xs : List (List Int)) (hn : xs.length ≤ 1048576) (hp : 0 < lenAll xs) (hm : lenAll xs < 17592186044416) : Ev (fun k => slices_Concat_int_int.f k xs) xs.flatten := by
  unfold slices_Concat_int_int.f
  exact concat_l0 xs hn hp hm xs 0 0 rfl (by omega)
theorem shape_app : ∀ (f g : List Int) (n : Nat), shape (f ++ g) n = (shape f n).bind (shape g) := by
  intro f
  induction f with
  | nil => intro g n; rfl
  | cons s r ih =>
    intro g n
    rw [List.cons_append]
    unfold shape
    split
    · exact ih g _
    · split
      · split
        · exact ih g _
        · rfl
      · split
        · split
          · exact ih g _
          · rfl
        · rfl
theorem isFormula_not {f : List Int} (h : isFormula (f ++ [-1]) = true) : isFormula f = true := by
  unfold isFormula at h ⊢
  rw [Bool.and_eq_true, decide_eq_true_eq, decide_eq_true_eq, shape_app] at h
  obtain ⟨h1, h2⟩ := h
  rw [List.length_append, List.length_singleton] at h2
  rw [Bool.and_eq_true, decide_eq_true_eq, decide_eq_true_eq]
  refine ⟨?_, by omega⟩
  cases hs : shape f 0 with
  | none => rw [hs] at h1; exact absurd h1 (by simp)
  | some n =>
    rw [hs, Option.bind_some] at h1
    simp only [shape] at h1
    rw [if_neg (by omega), if_pos trivial] at h1
    split at h1
    · exact h1
    · exact absurd h1 (by simp)
def notOf (f : List Int) : List Int := if isFormula (f ++ [-1]) then f ++ [-1] else []
theorem isFormulaI_ev (f : List Int) (hn : f.length ≤ 9223372036854775807) : Ev (fun k => impl_IsFormula.f k f) (isFormula f) := by
  obtain ⟨bv, hr, _⟩ := rowsOf_ev f hn
  unfold impl_IsFormula.f
  exact Ev.bind hr (Ev.now _)
theorem notOf_impl (f : List Int) (hn : f.length ≤ 1048576) : Ev (fun k => impl_NotOf.f k f) (notOf f) := by
  have hc := concat_ev [f, [-1]] (by simp) (by simp only [lenAll, List.length_cons, List.length_nil]; omega) (by simp only [lenAll, List.length_cons, List.length_nil]; omega)
  rw [show ([f, [-1]] : List (List Int)).flatten = f ++ [-1] by simp] at hc
  unfold impl_NotOf.f notOf
  refine Ev.bind hc (Ev.bind (isFormulaI_ev f (by omega)) (ev_ite (fun e => ?_) (fun e => ev_eq (Ev.now _) ?_)))
  · refine Ev.bind (isFormulaI_ev (f ++ [-1]) (by first | (simp; done) | (simp; omega))) (ev_ite (fun e2 => ev_eq (Ev.now _) (by rw [if_pos e2])) (fun e2 => ev_eq (Ev.now _) (by rw [if_neg e2])))
  · rw [if_neg (fun h => e (isFormula_not h))]
theorem evalS_app {β : Type} (lit : Int → β) (no : β → β) (op : Int → β → β → β) : ∀ (f g : List Int) (st : List β), evalS lit no op (f ++ g) st = (evalS lit no op f st).bind (evalS lit no op g) := by
  intro f
  induction f with
  | nil => intro g st; rfl
  | cons s r ih =>
    intro g st
    rw [List.cons_append]
    unfold evalS
    split
    · exact ih g _
    · split
      · split
        · exact ih g _
        · rfl
      · split
        · split
          · exact ih g _
          · rfl
        · rfl
theorem evalS_one {β : Type} (lit : Int → β) (no : β → β) (op : Int → β → β → β) (f : List Int) (hf : isFormula f = true) : ∃ x, evalS lit no op f [] = some [x] := by
  simp only [isFormula, Bool.and_eq_true, decide_eq_true_eq] at hf
  have hs := evalS_shape lit no op f []
  rw [show shape f ([] : List β).length = some 1 from hf.1] at hs
  cases hE : evalS lit no op f [] with
  | none => rw [hE] at hs; simp at hs
  | some st =>
    rw [hE] at hs
    match st, hs with
    | [x], _ => exact ⟨x, rfl⟩
theorem value_notOf (v : Nat → Bool) (f : List Int) (h : 0 < (notOf f).length) : value v (notOf f) = !(value v f) := by
  have e : isFormula (f ++ [-1]) = true := by
    by_cases e : isFormula (f ++ [-1]) = true
    · exact e
    · unfold notOf at h; rw [if_neg e] at h; simp at h
  have hn : notOf f = f ++ [-1] := by unfold notOf; rw [if_pos e]
  have hf := isFormula_not e
  obtain ⟨x, hx⟩ := evalS_one (fun s => v s.toNat) (fun x => !x) opB f hf
  have h2 : evalS (fun s => v s.toNat) (fun x => !x) opB (f ++ [-1]) [] = some [!x] := by
    rw [evalS_app, hx]; rfl
  rw [hn]
  simp only [value, valB, e, hf, hx, h2, Bool.true_and]
theorem l10Draw_ok (b : List Int) (hb : b.length ≤ 1048576) : ∀ (d : Nat), d ≤ 3 → ∀ (i h : Int), Cur b i → ∃ f i2 h2, Ev (fun k => spec_l10Draw.f k b i h (d : Int)) (f, i2, h2) ∧ 1 ≤ f.length ∧ f.length < 2 ^ (d + 1) ∧ Cur b i2 := by
  have lit : ∀ (a : Int) (i h : Int), Cur b i → ∃ f i2 h2, Ev (fun k => spec_l10Draw.j0 k a true b i h) (f, i2, h2) ∧ f.length = 1 ∧ Cur b i2 := by
    intro a i h hc
    obtain ⟨r, i2, h2, e, _, _, _, hc2⟩ := l1Below_ok b i h 4 hc hb
    refine ⟨[r], i2, h2, ?_, rfl, hc2⟩
    refine Ev.step (fun k => by rw [spec_l10Draw.j0]) ?_
    exact ev_pos rfl (ev_bind0 e (Ev.now _))
  intro d
  induction d with
  | zero =>
    intro _ i h hc
    obtain ⟨f, i2, h2, e, hl, hc2⟩ := lit 0 i h hc
    refine ⟨f, i2, h2, ?_, by omega, by omega, hc2⟩
    refine Ev.step (fun k => by rw [spec_l10Draw.f]) ?_
    exact ev_pos rfl e
  | succ d ih =>
    intro hd i h hc
    obtain ⟨r1, i1, h1, e1, hc1⟩ := l1Once_ok b i h 4 hc hb
    have hw : wrap64 (((d + 1 : Nat) : Int) - 1) = (d : Int) := by rw [wrap_id (by omega) (by omega)]; omega
    have hp : 2 ^ (d + 1 + 1) = 2 * 2 ^ (d + 1) := by rw [Nat.pow_succ 2 (d + 1)]; omega
    have hb2 : 2 ^ (d + 1) ≤ 2 ^ 4 := Nat.pow_le_pow_right (by decide) (show d + 1 ≤ 4 by omega)
    have hb3 : 1 ≤ 2 ^ (d + 1) := Nat.one_le_two_pow
    generalize 2 ^ (d + 1) = P at hp hb2 hb3 ih
    rw [hp]
    cases r1 with
    | true =>
      obtain ⟨f, i2, h2, e, hl, hc2⟩ := lit ((d + 1 : Nat) : Int) i1 h1 hc1
      refine ⟨f, i2, h2, ?_, by omega, by omega, hc2⟩
      refine Ev.step (fun k => by rw [spec_l10Draw.f]) ?_
      exact ev_neg (by omega) (ev_bind0 e1 e)
    | false =>
      obtain ⟨r2, i2, h2, e2, hc2⟩ := l1Once_ok b i1 h1 4 hc1 hb
      obtain ⟨f, i3, h3, e3, hl1, hl2, hc3⟩ := ih (by omega) i2 h2 hc2
      cases r2 with
      | true =>
        refine ⟨f ++ [-1], i3, h3, ?_, by simp, by rw [List.length_append, List.length_singleton]; omega, hc3⟩
        refine Ev.step (fun k => by rw [spec_l10Draw.f]) ?_
        refine ev_neg (by omega) (ev_bind0 e1 ?_)
        refine Ev.step (fun k => by rw [spec_l10Draw.j0]) ?_
        rw [hw]
        exact ev_neg (by simp) (ev_bind0 e2 (ev_pos rfl (Ev.bind e3 (ev_pos (by dsimp only; omega) (Ev.now _)))))
      | false =>
        obtain ⟨g, i4, h4, e4, hg1, hg2, hc4⟩ := ih (by omega) i3 h3 hc3
        obtain ⟨r5, i5, h5, e5, _, _, _, hc5⟩ := l1Below_ok b i4 h4 3 hc4 hb
        refine ⟨f ++ g ++ [wrap64 ((-2) - r5)], i5, h5, ?_, by rw [List.length_append, List.length_append, List.length_singleton]; omega, by rw [List.length_append, List.length_append, List.length_singleton]; omega, hc5⟩
        refine Ev.step (fun k => by rw [spec_l10Draw.f]) ?_
        refine ev_neg (by omega) (ev_bind0 e1 ?_)
        refine Ev.step (fun k => by rw [spec_l10Draw.j0]) ?_
        rw [hw]
        exact ev_neg (by simp) (ev_bind0 e2 (ev_neg (by simp) (Ev.bind e3 (Ev.bind e4 (ev_pos (by dsimp only; omega) (ev_bind0 rfl (ev_bind0 e5 (ev_pos (by rw [List.length_append]; dsimp only; omega) (Ev.now _)))))))))
theorem l10Any_ok (b : List Int) (hb : b.length ≤ 1048576) (i h : Int) (hc : Cur b i) : ∃ f i2 h2, Ev (fun k => spec_l10Any.f k b i h) (f, i2, h2) ∧ f.length ≤ 15 ∧ Cur b i2 := by
  obtain ⟨f, i1, h1, e1, hl1, hl2, hc1⟩ := l10Draw_ok b hb 3 (by omega) i h hc
  have hl3 : f.length < 16 := hl2
  obtain ⟨r, i2, h2, e2, h20, h2lt, _, hc2⟩ := l1Below_ok b i1 h1 10 hc1 hb
  unfold spec_l10Any.f
  by_cases r0 : r = 0
  · obtain ⟨q, i3, h3, e3, h30, h3lt, _, hc3⟩ := l1Below_ok b i2 h2 (f.length : Int) hc2 hb
    obtain ⟨x, i4, h4, e4, _, hc4⟩ := l1Int_ok b i3 h3 [(-5), (-4), 5, 6, 9223372036854775807] hc3 hb (by decide)
    exact ⟨f.set q.toNat x, i4, h4, Ev.bind e1 (ev_bind0 e2 (ev_pos r0 (ev_bind0 e3 (ev_bind0 e4 (ev_pos h30 (ev_pos (h3lt (by omega)) (Ev.now _))))))), by rw [List.length_set]; omega, hc4⟩
  · by_cases r1 : r = 1
    · exact ⟨f.drop 1, i2, h2, Ev.bind e1 (ev_bind0 e2 (ev_neg r0 (ev_pos r1 (ev_pos (by dsimp only; omega) (Ev.now _))))), by rw [List.length_drop]; omega, hc2⟩
    · exact ⟨f, i2, h2, Ev.bind e1 (ev_bind0 e2 (ev_neg r0 (ev_neg r1 (Ev.now _)))), by omega, hc2⟩
theorem notOf_len (f : List Int) : (notOf f).length ≤ f.length + 1 := by
  unfold notOf
  split
  · rw [List.length_append, List.length_singleton]; omega
  · rw [List.length_nil]; omega
theorem rowVal_notOf (f : List Int) (m : Nat) (h : 0 < (notOf f).length) : rowVal m (notOf f) = !(rowVal m f) := by
  unfold rowVal
  exact value_notOf _ f h
theorem with_eq (l : List (List Int)) (f : List Int) (hl : l.length ≤ 1048576) : laws_with.f l f = some (l ++ [f]) := by
  unfold laws_with.f
  rw [Option.bind_some, if_pos (by rw [List.length_nil]; omega), Option.bind_some, List.nil_append, if_pos (by omega)]

theorem equalInts_l0 (xs ys : List Int) (hl : xs.length = ys.length) (hn : xs.length ≤ 9223372036854775807) : ∀ (zs us : List Int) (i : Nat), xs.drop i = zs → ys.drop i = us → Ev (fun k => spec_EqualInts.l0 k xs ys (i : Int)) (decide (zs = us)) := by
  intro zs
  induction zs with
  | nil =>
    intro us i h hu
    have := at_end h
    refine Ev.step (fun k => by rw [spec_EqualInts.l0]) ?_
    rw [List.drop_of_length_le (by omega)] at hu
    subst hu
    exact ev_neg (by omega) (ev_eq (Ev.now _) (by simp))
  | cons z zs ih =>
    intro us i h hu
    obtain ⟨hlt, hz, h2, _⟩ := at_drop h
    cases us with
    | nil => have := at_end hu; omega
    | cons u us =>
      obtain ⟨_, hzu, hu2, _⟩ := at_drop hu
      refine Ev.step (fun k => by rw [spec_EqualInts.l0]) ?_
      refine ev_pos (by omega) (ev_pos (by omega) (ev_pos (by omega) ?_))
      rw [wrap_id (by omega) (by omega), rd_get hz, rd_get hzu]
      refine ev_ite (fun e => ev_eq (ih us (i + 1) h2 hu2) ?_) (fun e => ev_eq (Ev.now _) ?_)
      · simp [e]
      · simp [e]
theorem equalInts_ev (xs ys : List Int) (hn : xs.length ≤ 9223372036854775807) : Ev (fun k => spec_EqualInts.f k xs ys) (decide (xs = ys)) := by
  unfold spec_EqualInts.f
  refine ev_ite (fun e => equalInts_l0 xs ys (by omega) hn xs ys 0 rfl rfl) (fun e => ev_eq (Ev.now _) ?_)
  have : xs ≠ ys := by rintro rfl; exact e rfl
  simp [this]
/-- The place of the first row that is f. -/
def rowAt (f : List Int) : List (List Int) → Nat → Int
  | [], _ => -1
  | r :: rs, i => if r = f then i else rowAt f rs (i + 1)
theorem rowAt_bound (f : List Int) : ∀ (rs : List (List Int)) (i : Nat), rowAt f rs i = -1 ∨ (i : Int) ≤ rowAt f rs i ∧ rowAt f rs i < i + rs.length := by
  intro rs
  induction rs with
  | nil => intro i; exact .inl rfl
  | cons r rs ih =>
    intro i
    unfold rowAt
    split
    · right; simp; omega
    · rcases ih (i + 1) with h | h
      · exact .inl h
      · right; simp only [List.length_cons]; omega
theorem l12Find_l0 (xs : List (List Int)) (f : List Int) (hn : xs.length ≤ 9223372036854775807) (hi : ∀ y ∈ xs, y.length ≤ 9223372036854775807) : ∀ (zs : List (List Int)) (i : Nat), xs.drop i = zs → Ev (fun k => spec_l12Find.l0 k xs f (i : Int)) (rowAt f zs i) := by
  intro zs
  induction zs with
  | nil =>
    intro i h
    have := at_end h
    refine Ev.step (fun k => by rw [spec_l12Find.l0]) ?_
    exact ev_neg (by omega) (Ev.now _)
  | cons z zs ih =>
    intro i h
    obtain ⟨hlt, hz, h2, _⟩ := at_drop h
    have hr : rd_L1 xs (i : Int) = z := getD_at hz
    refine Ev.step (fun k => by rw [spec_l12Find.l0]) ?_
    rw [hr, wrap_id (by omega) (by omega)]
    refine ev_pos (by omega) (ev_pos (by omega) (Ev.bind (equalInts_ev z f (hi z (List.mem_of_getElem? hz))) ?_))
    unfold rowAt
    by_cases e : z = f
    · rw [if_pos e]
      exact ev_pos (by simp [e]) (Ev.now _)
    · rw [if_neg e]
      exact ev_neg (by simp [e]) (ih (i + 1) h2)
theorem l12Find_ev (xs : List (List Int)) (f : List Int) (hn : xs.length ≤ 9223372036854775807) (hi : ∀ y ∈ xs, y.length ≤ 9223372036854775807) : Ev (fun k => spec_l12Find.f k xs f) (rowAt f xs 0) := by
  unfold spec_l12Find.f
  exact l12Find_l0 xs f hn hi xs 0 rfl
theorem rowsAlike_l0 (xs ys : List Int) (hl : xs.length = ys.length) (hn : xs.length ≤ 9223372036854775807) : ∀ (zs us : List Int) (i : Nat), xs.drop i = zs → ys.drop i = us → Ev (fun k => rowsAlike.l0 k xs ys xs.length (i : Int)) (decide (zs = us)) := by
  intro zs
  induction zs with
  | nil =>
    intro us i h hu
    have := at_end h
    refine Ev.step (fun k => by rw [rowsAlike.l0]) ?_
    rw [List.drop_of_length_le (by omega)] at hu
    subst hu
    exact ev_neg (by omega) (ev_eq (Ev.now _) (by simp))
  | cons z zs ih =>
    intro us i h hu
    obtain ⟨hlt, hz, h2, _⟩ := at_drop h
    cases us with
    | nil => have := at_end hu; omega
    | cons u us =>
      obtain ⟨_, hzu, hu2, _⟩ := at_drop hu
      refine Ev.step (fun k => by rw [rowsAlike.l0]) ?_
      refine ev_pos (by omega) (ev_pos (by omega) (ev_pos (by omega) (ev_pos (by omega) ?_)))
      rw [wrap_id (by omega) (by omega), rd_get hz, rd_get hzu]
      refine ev_ite (fun e => ev_eq (ih us (i + 1) h2 hu2) ?_) (fun e => ev_eq (Ev.now _) ?_)
      · simp [e]
      · simp [e]
theorem rowsAlike_ev (xs ys : List Int) (hn : xs.length ≤ 9223372036854775807) : Ev (fun k => rowsAlike.f k xs ys) (decide (xs = ys)) := by
  unfold rowsAlike.f
  refine ev_ite (fun e => rowsAlike_l0 xs ys (by omega) hn xs ys 0 rfl rfl) (fun e => ev_eq (Ev.now _) ?_)
  have : xs ≠ ys := by rintro rfl; exact e rfl
  simp [this]
theorem formulaAt_l0 (xs : List (List Int)) (f : List Int) (hn : xs.length ≤ 9223372036854775807) (hi : ∀ y ∈ xs, y.length ≤ 9223372036854775807) : ∀ (zs : List (List Int)) (i : Nat), xs.drop i = zs → Ev (fun k => impl_formulaAt.l0 k xs f (i : Int)) (rowAt f zs i) := by
  intro zs
  induction zs with
  | nil =>
    intro i h
    have := at_end h
    refine Ev.step (fun k => by rw [impl_formulaAt.l0]) ?_
    exact ev_neg (by omega) (Ev.now _)
  | cons z zs ih =>
    intro i h
    obtain ⟨hlt, hz, h2, _⟩ := at_drop h
    have hr : rd_L1 xs (i : Int) = z := getD_at hz
    refine Ev.step (fun k => by rw [impl_formulaAt.l0]) ?_
    rw [hr, wrap_id (by omega) (by omega)]
    refine ev_pos (by omega) (ev_pos (by omega) (Ev.bind (rowsAlike_ev z f (hi z (List.mem_of_getElem? hz))) ?_))
    unfold rowAt
    by_cases e : z = f
    · rw [if_pos e]
      exact ev_pos (by simp [e]) (Ev.now _)
    · rw [if_neg e]
      exact ev_neg (by simp [e]) (ih (i + 1) h2)
theorem formulaAt_ev (xs : List (List Int)) (f : List Int) (hn : xs.length ≤ 9223372036854775807) (hi : ∀ y ∈ xs, y.length ≤ 9223372036854775807) : Ev (fun k => impl_formulaAt.f k xs f) (rowAt f xs 0) := by
  unfold impl_formulaAt.f
  exact formulaAt_l0 xs f hn hi xs 0 rfl
def canHoldB (xs : List (List Int)) : Bool := xs.all isFormula && (List.range 64).any (fun j => xs.all (rowVal j))
/-- No row among the first ones is the row at i. -/
def freshAt (xs : List (List Int)) (i : Nat) : Bool := decide (rowAt (xs.getD i []) (xs.take i) 0 < 0)
def isStore (xs : List (List Int)) : Bool := (List.range xs.length).all (freshAt xs) && (decide (xs.length ≤ 12) && canHoldB xs)
theorem isStore_l0B (xs : List (List Int)) (hn : xs.length ≤ 1048577) (hi : ∀ y ∈ xs, y.length ≤ 1048576) : ∀ (d i : Nat), i + d = xs.length → Ev (fun k => spec_IsStore.l0 k xs (i : Int)) ((List.range d).all (fun j => freshAt xs (i + j)) && (decide (xs.length ≤ 12) && canHoldB xs)) := by
  intro d
  induction d with
  | zero =>
    intro i h
    refine Ev.step (fun k => by rw [spec_IsStore.l0]) ?_
    refine ev_neg (by omega) (ev_ite (fun e => Ev.bind (canHold_specB xs hn hi) (ev_eq (Ev.now _) ?_)) (fun e => ev_eq (Ev.now _) ?_))
    · rw [show decide (xs.length ≤ 12) = true by simp; omega]
      simp [canHoldB]
    · rw [show decide (xs.length ≤ 12) = false by simp; omega]
      simp
  | succ d ih =>
    intro i h
    refine Ev.step (fun k => by rw [spec_IsStore.l0]) ?_
    have hrd : rd_L1 xs (i : Int) = xs.getD i [] := by unfold rd_L1; rw [Int.toNat_natCast]
    have hl : (xs.take i).length ≤ 9223372036854775807 := by rw [List.length_take]; omega
    have hli : ∀ y ∈ xs.take i, y.length ≤ 9223372036854775807 := fun y hy => Nat.le_trans (hi y (List.mem_of_mem_take hy)) (by decide)
    rw [hrd, Int.toNat_natCast, wrap_id (by omega) (by omega), List.range_succ_eq_map, List.all_cons, List.all_map]
    have e2 : ((fun j => freshAt xs (i + j)) ∘ Nat.succ) = fun j => freshAt xs (i + 1 + j) := by
      funext j
      simp only [Function.comp]
      rw [show i + j.succ = i + 1 + j by omega]
    rw [e2, show i + 0 = i from rfl]
    refine ev_pos (by omega) (ev_pos (by omega) (ev_pos (by omega) (Ev.bind (l12Find_ev _ _ hl hli) (ev_ite (fun e => ev_eq (Ev.now _) ?_) (fun e => ev_eq (ih (i + 1) (by omega)) ?_)))))
    · rw [show freshAt xs i = false from decide_eq_false (by omega)]
      simp
    · rw [show freshAt xs i = true from decide_eq_true (by omega), Bool.true_and]
theorem isStore_specB (xs : List (List Int)) (hn : xs.length ≤ 1048577) (hi : ∀ y ∈ xs, y.length ≤ 1048576) : Ev (fun k => spec_IsStore.f k xs) (isStore xs) := by
  unfold spec_IsStore.f isStore
  refine ev_eq (isStore_l0B xs hn hi xs.length 0 (by omega)) ?_
  simp
theorem isStore_len {xs : List (List Int)} (h : isStore xs = true) : xs.length ≤ 12 ∧ canHoldB xs = true := by
  unfold isStore at h
  simp only [Bool.and_eq_true, decide_eq_true_eq] at h
  exact h.2
theorem isStoreI_l0B (xs : List (List Int)) (hn : xs.length ≤ 1048577) (hi : ∀ y ∈ xs, y.length ≤ 1048576) : ∀ (d i : Nat), i + d = xs.length → Ev (fun k => impl_IsStore.l0 k xs xs xs.length (i : Int)) ((List.range d).all (fun j => freshAt xs (i + j))) := by
  intro d
  induction d with
  | zero =>
    intro i h
    refine Ev.step (fun k => by rw [impl_IsStore.l0]) ?_
    exact ev_neg (by omega) (ev_eq (Ev.now _) (by simp))
  | succ d ih =>
    intro i h
    refine Ev.step (fun k => by rw [impl_IsStore.l0]) ?_
    have hrd : rd_L1 xs (i : Int) = xs.getD i [] := by unfold rd_L1; rw [Int.toNat_natCast]
    have hl : (xs.take i).length ≤ 9223372036854775807 := by rw [List.length_take]; omega
    have hli : ∀ y ∈ xs.take i, y.length ≤ 9223372036854775807 := fun y hy => Nat.le_trans (hi y (List.mem_of_mem_take hy)) (by decide)
    rw [hrd, Int.toNat_natCast, wrap_id (by omega) (by omega), List.range_succ_eq_map, List.all_cons, List.all_map]
    have e2 : ((fun j => freshAt xs (i + j)) ∘ Nat.succ) = fun j => freshAt xs (i + 1 + j) := by
      funext j
      simp only [Function.comp]
      rw [show i + j.succ = i + 1 + j by omega]
    rw [e2, show i + 0 = i from rfl]
    refine ev_pos (by omega) (ev_pos (by omega) (ev_pos (by omega) (ev_pos (by omega) (Ev.bind (formulaAt_ev _ _ hl hli) (ev_ite (fun e => ev_eq (Ev.now _) ?_) (fun e => ev_eq (ih (i + 1) (by omega)) ?_))))))
    · rw [show freshAt xs i = false from decide_eq_false (by omega)]
      simp
    · rw [show freshAt xs i = true from decide_eq_true (by omega), Bool.true_and]
theorem isStore_implB (xs : List (List Int)) (hn : xs.length ≤ 1048577) (hi : ∀ y ∈ xs, y.length ≤ 1048576) : Ev (fun k => impl_IsStore.f k xs) (isStore xs) := by
  have hj : ∀ b : Bool, Ev (fun k => impl_IsStore.j0 k xs b) (!b && (List.range xs.length).all (freshAt xs)) := by
    intro b
    refine Ev.step (fun k => by rw [impl_IsStore.j0]) ?_
    cases b with
    | true => exact ev_pos rfl (ev_eq (Ev.now _) rfl)
    | false =>
      refine ev_neg (by decide) (ev_eq (isStoreI_l0B xs hn hi xs.length 0 (by omega)) ?_)
      simp
  unfold impl_IsStore.f isStore
  refine ev_ite (fun e => ev_eq (hj true) ?_) (fun e => Ev.bind (canHold_implB xs hn hi) (ev_eq (hj _) ?_))
  · rw [show decide (xs.length ≤ 12) = false by simp; omega]
    simp
  · rw [show decide (xs.length ≤ 12) = true by simp; omega, Bool.true_and, Bool.not_not, Bool.and_comm]
    rfl
theorem isStore_impl (xs : List (List Int)) (hn : xs.length ≤ 1048576) (hi : ∀ y ∈ xs, y.length ≤ 1048576) : Ev (fun k => impl_IsStore.f k xs) (isStore xs) := isStore_implB xs (by omega) hi

def cntF (xs : List (List Int)) (m : Nat) : Nat := xs.countP fun g => !rowVal m g
def pcN (μ : Nat) : Nat := (List.range 64).countP fun j => μ.testBit j
def specFold (xs : List (List Int)) (f : List Int) : Nat → Nat → Int → Int
  | 0, _, b => b
  | d + 1, m, b => specFold xs f d (m + 1) (if rowVal m f then (if (cntF xs m : Int) < b then (cntF xs m : Int) else b) else b)
def goodB (xs : List (List Int)) (f : List Int) (μ : Nat) : Bool := (List.range 64).any fun m => rowVal m f && (List.range xs.length).all fun i => μ.testBit i || rowVal m (xs.getD i [])
def updB (g : Bool) (p b : Int) : Int := if g then (if b < 0 then p else if p < b then p else b) else b
def implFold (xs : List (List Int)) (f : List Int) : Nat → Nat → Int → Int
  | 0, _, b => b
  | d + 1, μ, b => implFold xs f d (μ + 1) (updB (goodB xs f μ) (pcN μ) b)
theorem specFold_char (xs : List (List Int)) (f : List Int) : ∀ (d m : Nat) (b : Int), specFold xs f d m b ≤ b ∧ (∀ j, m ≤ j → j < m + d → rowVal j f = true → specFold xs f d m b ≤ cntF xs j) ∧ (specFold xs f d m b = b ∨ ∃ j, m ≤ j ∧ j < m + d ∧ rowVal j f = true ∧ specFold xs f d m b = cntF xs j) := by
  intro d
  induction d with
  | zero => intro m b; exact ⟨Int.le_refl _, fun j h1 h2 => by omega, .inl rfl⟩
  | succ d ih =>
    intro m b
    unfold specFold
    obtain ⟨h1, h2, h3⟩ := ih (m + 1) (if rowVal m f then (if (cntF xs m : Int) < b then (cntF xs m : Int) else b) else b)
    generalize specFold xs f d (m + 1) (if rowVal m f then (if (cntF xs m : Int) < b then (cntF xs m : Int) else b) else b) = r at h1 h2 h3
    cases hm : rowVal m f with
    | false =>
      rw [hm, if_neg (by decide)] at h1 h3
      refine ⟨h1, fun j a c e => ?_, ?_⟩
      · by_cases hj : j = m
        · subst hj; rw [hm] at e; exact absurd e (by decide)
        · exact h2 j (by omega) (by omega) e
      · rcases h3 with h3 | ⟨j, a, c, e, q⟩
        · exact .inl h3
        · exact .inr ⟨j, by omega, by omega, e, q⟩
    | true =>
      rw [hm, if_pos rfl] at h1 h3
      have hb : r ≤ b ∧ r ≤ cntF xs m := by split at h1 <;> omega
      refine ⟨hb.1, fun j a c e => ?_, ?_⟩
      · by_cases hj : j = m
        · subst hj; exact hb.2
        · exact h2 j (by omega) (by omega) e
      · rcases h3 with h3 | ⟨j, a, c, e, q⟩
        · split at h3
          · exact .inr ⟨m, by omega, by omega, hm, h3⟩
          · exact .inl h3
        · exact .inr ⟨j, by omega, by omega, e, q⟩
theorem implFold_char (xs : List (List Int)) (f : List Int) : ∀ (d μ : Nat) (b : Int), (b = -1 ∨ 0 ≤ b) → (b ≠ -1 → implFold xs f d μ b ≠ -1 ∧ implFold xs f d μ b ≤ b) ∧ (∀ j, μ ≤ j → j < μ + d → goodB xs f j = true → implFold xs f d μ b ≠ -1 ∧ implFold xs f d μ b ≤ pcN j) ∧ (implFold xs f d μ b = b ∨ ∃ j, μ ≤ j ∧ j < μ + d ∧ goodB xs f j = true ∧ implFold xs f d μ b = pcN j) := by
  intro d
  induction d with
  | zero => intro m b _; exact ⟨fun h => ⟨h, Int.le_refl _⟩, fun j h1 h2 => by omega, .inl rfl⟩
  | succ d ih =>
    intro μ b hb
    unfold implFold
    have hu : updB (goodB xs f μ) (pcN μ) b = -1 ∨ 0 ≤ updB (goodB xs f μ) (pcN μ) b := by
      unfold updB
      split
      · split
        · omega
        · split <;> omega
      · exact hb
    obtain ⟨h1, h2, h3⟩ := ih (μ + 1) _ hu
    generalize implFold xs f d (μ + 1) (updB (goodB xs f μ) (pcN μ) b) = r at h1 h2 h3
    cases hg : goodB xs f μ with
    | false =>
      have e : updB (goodB xs f μ) (pcN μ) b = b := by rw [hg]; rfl
      rw [e] at h1 h3
      refine ⟨h1, fun j a c q => ?_, ?_⟩
      · by_cases hj : j = μ
        · subst hj; rw [hg] at q; exact absurd q (by decide)
        · exact h2 j (by omega) (by omega) q
      · rcases h3 with h3 | ⟨j, a, c, e, q⟩
        · exact .inl h3
        · exact .inr ⟨j, by omega, by omega, e, q⟩
    | true =>
      have e : updB (goodB xs f μ) (pcN μ) b = if b < 0 then (pcN μ : Int) else if (pcN μ : Int) < b then (pcN μ : Int) else b := by rw [hg]; rfl
      have hv : updB (goodB xs f μ) (pcN μ) b ≠ -1 ∧ updB (goodB xs f μ) (pcN μ) b ≤ pcN μ ∧ (b ≠ -1 → updB (goodB xs f μ) (pcN μ) b ≤ b) ∧ (updB (goodB xs f μ) (pcN μ) b = b ∨ updB (goodB xs f μ) (pcN μ) b = pcN μ) := by
        rw [e]
        split
        · refine ⟨by omega, by omega, fun _ => by omega, .inr rfl⟩
        · split
          · refine ⟨by omega, by omega, fun _ => by omega, .inr rfl⟩
          · refine ⟨by omega, by omega, fun _ => by omega, .inl rfl⟩
      obtain ⟨v1, v2, v3, v4⟩ := hv
      have h11 := h1 v1
      refine ⟨fun hb1 => ⟨h11.1, Int.le_trans h11.2 (v3 hb1)⟩, fun j a c q => ?_, ?_⟩
      · by_cases hj : j = μ
        · subst hj; exact ⟨h11.1, Int.le_trans h11.2 v2⟩
        · exact h2 j (by omega) (by omega) q
      · rcases h3 with h3 | ⟨j, a, c, e, q⟩
        · rcases v4 with v4 | v4
          · exact .inl (h3.trans v4)
          · exact .inr ⟨μ, by omega, by omega, hg, h3.trans v4⟩
        · exact .inr ⟨j, by omega, by omega, e, q⟩
theorem bits_and_1 (n : Nat) (h : n < 9223372036854775808) : Go.bits .and .i64 (n : Int) 1 = ((n % 2 : Nat) : Int) := by
  show IntKind.i64.wrap ((BitVec.ofInt 64 (n : Int) &&& BitVec.ofInt 64 1).toNat : Int) = _
  have e : (BitVec.ofInt 64 (n : Int) &&& BitVec.ofInt 64 1).toNat = n % 2 := by
    rw [BitVec.ofInt_natCast, show BitVec.ofInt 64 1 = BitVec.ofNat 64 1 from rfl, BitVec.toNat_and, BitVec.toNat_ofNat, BitVec.toNat_ofNat, Nat.mod_eq_of_lt (show n < 2 ^ 64 by omega), Nat.mod_eq_of_lt (show 1 < 2 ^ 64 by decide), Nat.and_one_is_mod]
  rw [e]
  simp only [i64_w]
  exact wrap_id (x := ((n % 2 : Nat) : Int)) (by omega) (by omega)
theorem bit_test (μ i : Nat) (hμ : μ < 9223372036854775808) (hi : i < 64) : (Go.bits .and .i64 (shr .i64 (μ : Int) (i : Int)) 1 = 0) ↔ μ.testBit i = false := by
  have h1 : shr .i64 (μ : Int) (i : Int) = ((μ / 2 ^ i : Nat) : Int) := by
    unfold shr
    rw [Int.toNat_natCast, show min i IntKind.i64.bits = i from Nat.min_eq_left (by show i ≤ 64; omega)]
    simp
  have h2 : μ / 2 ^ i ≤ μ := Nat.div_le_self _ _
  rw [h1, bits_and_1 _ (by omega), Nat.testBit_eq_decide_div_mod_eq, decide_eq_false_iff_not]
  omega
theorem shl_len : ∀ n : Fin 13, shl .i64 1 ((n.val : Nat) : Int) = ((2 ^ n.val : Nat) : Int) := by decide +kernel
theorem lbI_l1 (xs : List (List Int)) (bv : BitVec 64) (b : Int) (N μ : Nat) (hμ : μ < 4096) (hn : xs.length ≤ 12) (hi : ∀ y ∈ xs, y.length ≤ 1048576) (hok : xs.all isFormula = true) : ∀ (zs : List (List Int)) (i : Nat) (a : BitVec 64), xs.drop i = zs →
    ∃ c : BitVec 64, (∀ m, m < 64 → c.getLsbD m = (a.getLsbD m && (List.range zs.length).all fun j => μ.testBit (i + j) || rowVal m (xs.getD (i + j) []))) ∧ ∀ R, Ev (fun k => impl_LeastBack.l0 k xs (bv.toNat : Int) (updB (decide (c ≠ 0#64)) (pcN μ) b) (N : Int) ((μ + 1 : Nat) : Int)) R → Ev (fun k => impl_LeastBack.l1 k xs (bv.toNat : Int) b (μ : Int) (a.toNat : Int) (N : Int) (μ : Int) xs xs.length (i : Int)) R := by
  intro zs
  induction zs with
  | nil =>
    intro i a h
    have := at_end h
    refine ⟨a, fun m hm => by simp, fun R hR => Ev.step (fun k => by rw [impl_LeastBack.l1]) ?_⟩
    refine ev_neg (by omega) ?_
    rw [uwrap_id μ (by omega)]
    refine ev_bind0 (show bits_OnesCount.f (μ : Int) = some (pcN μ : Int) from by unfold bits_OnesCount.f; rw [onesCount μ (by omega)]; rfl) ?_
    rw [wrap_id (x := (μ : Int) + 1) (by omega) (by omega)]
    unfold updB at hR
    by_cases ha : a = 0#64
    · subst ha
      rw [if_neg (by decide)] at hR
      exact ev_pos rfl hR
    · rw [if_pos (decide_eq_true ha)] at hR
      refine ev_neg (fun h0 => ha (BitVec.eq_of_toNat_eq (by simpa using h0))) (ev_ite (fun e => ?_) (fun e => ev_ite (fun e2 => ?_) (fun e2 => ?_)))
      · rw [if_pos e] at hR; exact hR
      · rw [if_neg e, if_pos e2] at hR; exact hR
      · rw [if_neg e, if_neg e2] at hR; exact hR
  | cons z zs ih =>
    intro i a h
    obtain ⟨hlt, hz, h2, _⟩ := at_drop h
    have hr : rd_L1 xs (i : Int) = z := getD_at hz
    have hzg : xs.getD i [] = z := by rw [List.getD_eq_getElem?_getD, hz]; rfl
    have hzm := List.mem_of_getElem? hz
    have hzl := hi z hzm
    have hzf : isFormula z = true := List.all_eq_true.1 hok z hzm
    obtain ⟨bz, hbz, hbz2⟩ := rowsOf_rows z (by omega)
    have hall : ∀ m, ((List.range (zs.length + 1)).all fun j => μ.testBit (i + j) || rowVal m (xs.getD (i + j) [])) = ((μ.testBit i || rowVal m z) && (List.range zs.length).all fun j => μ.testBit (i + 1 + j) || rowVal m (xs.getD (i + 1 + j) [])) := by
      intro m
      rw [List.range_succ_eq_map, List.all_cons, List.all_map, show i + 0 = i from rfl, hzg]
      congr 2
      funext j
      simp only [Function.comp]
      rw [show i + j.succ = i + 1 + j by omega]
    have hw : wrap64 ((i : Int) + 1) = ((i + 1 : Nat) : Int) := wrap_id (by omega) (by omega)
    cases ht : μ.testBit i with
    | false =>
      obtain ⟨c, hc, hR⟩ := ih (i + 1) (a &&& bz) h2
      refine ⟨c, fun m hm => ?_, fun R h0 => Ev.step (fun k => by rw [impl_LeastBack.l1]) ?_⟩
      · rw [hc m hm, List.length_cons, hall m, BitVec.getLsbD_and, hbz2 hzf m hm, ht, Bool.false_or, Bool.and_assoc]
      · rw [hr, hw]
        refine ev_pos (by omega) (ev_pos (by omega) (ev_pos (by omega) (ev_pos ((bit_test μ i (by omega) (by omega)).2 ht) (Ev.bind hbz ?_))))
        dsimp only
        rw [bits_and_bv]
        exact hR R h0
    | true =>
      obtain ⟨c, hc, hR⟩ := ih (i + 1) a h2
      refine ⟨c, fun m hm => ?_, fun R h0 => Ev.step (fun k => by rw [impl_LeastBack.l1]) ?_⟩
      · rw [hc m hm, List.length_cons, hall m, ht, Bool.true_or, Bool.true_and]
      · rw [hr, hw]
        refine ev_pos (by omega) (ev_pos (by omega) (ev_pos (by omega) (ev_neg (fun h0 => ?_) (hR R h0))))
        rw [(bit_test μ i (by omega) (by omega)).1 h0] at ht
        exact absurd ht (by decide)
theorem lbI_l0 (xs : List (List Int)) (f : List Int) (bv : BitVec 64) (hbv : ∀ m, m < 64 → bv.getLsbD m = rowVal m f) (N : Nat) (hN : N ≤ 4096) (hn : xs.length ≤ 12) (hi : ∀ y ∈ xs, y.length ≤ 1048576) (hok : xs.all isFormula = true) : ∀ (d μ : Nat) (b : Int), μ + d = N → Ev (fun k => impl_LeastBack.l0 k xs (bv.toNat : Int) b (N : Int) (μ : Int)) (implFold xs f d μ b) := by
  intro d
  induction d with
  | zero =>
    intro μ b h
    refine Ev.step (fun k => by rw [impl_LeastBack.l0]) ?_
    exact ev_neg (by omega) (Ev.now _)
  | succ d ih =>
    intro μ b h
    refine Ev.step (fun k => by rw [impl_LeastBack.l0]) ?_
    refine ev_pos (by omega) ?_
    obtain ⟨c, hc, hR⟩ := lbI_l1 xs bv b N μ (by omega) hn hi hok xs 0 bv rfl
    unfold implFold
    refine hR _ ?_
    have hg : decide (c ≠ 0#64) = goodB xs f μ := by
      rw [Bool.eq_iff_iff, decide_eq_true_eq]
      unfold goodB
      rw [List.any_eq_true]
      constructor
      · intro h0
        refine Classical.byContradiction fun hno => h0 (bv_ext64 fun m hm => ?_)
        rw [BitVec.getLsbD_zero]
        cases hcm : c.getLsbD m with
        | false => rfl
        | true =>
          refine absurd ⟨m, List.mem_range.2 hm, ?_⟩ hno
          rw [← hcm, hc m hm, hbv m hm]
          simp only [Nat.zero_add]
      · rintro ⟨m, hm, hm2⟩ h0
        have hcm := hc m (List.mem_range.1 hm)
        rw [h0, BitVec.getLsbD_zero, hbv m (List.mem_range.1 hm)] at hcm
        simp only [Nat.zero_add] at hcm
        rw [← hcm] at hm2
        exact absurd hm2 (by decide)
    rw [hg]
    exact ih (μ + 1) _ (by omega)
theorem exists_mask (p : Nat → Bool) : ∀ n : Nat, ∃ μ, μ < 2 ^ n ∧ ∀ i, i < n → μ.testBit i = p i := by
  intro n
  induction n generalizing p with
  | zero => exact ⟨0, by decide, fun i h => by omega⟩
  | succ n ih =>
    obtain ⟨μ, h1, h2⟩ := ih (fun i => p (i + 1))
    refine ⟨2 * μ + (if p 0 then 1 else 0), by rw [Nat.pow_succ]; split <;> omega, fun i hi => ?_⟩
    cases i with
    | zero =>
      rw [Nat.testBit_zero]
      cases p 0 <;> simp <;> omega
    | succ i =>
      rw [Nat.testBit_succ, show (2 * μ + (if p 0 then 1 else 0)) / 2 = μ by split <;> omega]
      exact h2 i (by omega)
theorem countP_index (p : List Int → Bool) : ∀ xs : List (List Int), xs.countP p = (List.range xs.length).countP fun i => p (xs.getD i [])
  | [] => rfl
  | x :: xs => by
    rw [List.countP_cons, countP_index p xs, List.length_cons, List.range_succ_eq_map, List.countP_cons, List.countP_map]
    rfl
theorem pcN_low (n μ : Nat) (hn : n ≤ 64) (h : μ < 2 ^ n) : pcN μ = (List.range n).countP fun j => μ.testBit j := by
  unfold pcN
  rw [show 64 = n + (64 - n) by omega, List.range_add, List.countP_append, List.countP_map]
  have : (List.range (64 - n)).countP ((fun j => μ.testBit j) ∘ fun x => n + x) = 0 := by
    rw [List.countP_eq_zero]
    intro j _
    simp only [Function.comp]
    rw [Nat.testBit_lt_two_pow (Nat.lt_of_lt_of_le h (Nat.pow_le_pow_right (by decide) (by omega)))]
    decide
  rw [this, Nat.add_zero]
theorem folds_same (xs : List (List Int)) (f : List Int) (hn : xs.length ≤ 12) (hM : ∃ m, m < 64 ∧ rowVal m f = true) : specFold xs f 64 0 xs.length = implFold xs f (2 ^ xs.length) 0 (-1) := by
  obtain ⟨a1, a2, a3⟩ := specFold_char xs f 64 0 xs.length
  obtain ⟨_, b2, b3⟩ := implFold_char xs f (2 ^ xs.length) 0 (-1) (.inl rfl)
  generalize specFold xs f 64 0 xs.length = r1 at a1 a2 a3
  generalize implFold xs f (2 ^ xs.length) 0 (-1) = r2 at b2 b3
  have hmask : ∀ m, m < 64 → rowVal m f = true → r2 ≠ -1 ∧ r2 ≤ cntF xs m := by
    intro m hm hf
    obtain ⟨μ, hμ, hbit⟩ := exists_mask (fun i => !rowVal m (xs.getD i [])) xs.length
    have hg : goodB xs f μ = true := by
      unfold goodB
      rw [List.any_eq_true]
      refine ⟨m, List.mem_range.2 hm, ?_⟩
      rw [hf, Bool.true_and, List.all_eq_true]
      intro i hi
      rw [hbit i (List.mem_range.1 hi)]
      cases rowVal m (xs.getD i []) <;> rfl
    have hpc : pcN μ = cntF xs m := by
      rw [pcN_low xs.length μ (by omega) hμ]
      unfold cntF
      rw [countP_index]
      refine List.countP_congr fun i hi => ?_
      rw [hbit i (List.mem_range.1 hi)]
    have := b2 μ (Nat.zero_le _) (by omega) hg
    rw [hpc] at this
    exact this
  have hlow : ∀ μ, μ < 2 ^ xs.length → goodB xs f μ = true → ∃ m, m < 64 ∧ rowVal m f = true ∧ cntF xs m ≤ pcN μ := by
    intro μ hμ hg
    unfold goodB at hg
    rw [List.any_eq_true] at hg
    obtain ⟨m, hm, h2⟩ := hg
    rw [Bool.and_eq_true, List.all_eq_true] at h2
    refine ⟨m, List.mem_range.1 hm, h2.1, ?_⟩
    rw [pcN_low xs.length μ (by omega) hμ]
    unfold cntF
    rw [countP_index]
    refine List.countP_mono_left fun i hi h => ?_
    have := h2.2 i hi
    revert this h
    cases rowVal m (xs.getD i []) <;> simp
  obtain ⟨m0, hm0, hf0⟩ := hM
  have c0 := hmask m0 hm0 hf0
  have hcl : cntF xs m0 ≤ xs.length := List.countP_le_length
  have d1 : r2 ≤ r1 := by
    rcases a3 with a3 | ⟨j, _, hj, hf, e⟩
    · omega
    · have := hmask j (by omega) hf
      omega
  have d2 : r1 ≤ r2 := by
    rcases b3 with b3 | ⟨μ, _, hμ, hg, e⟩
    · exact absurd b3 c0.1
    · obtain ⟨m, hm, hf, hle⟩ := hlow μ (by omega) hg
      have := a2 m (Nat.zero_le _) (by omega) hf
      omega
  omega
theorem folds_none (xs : List (List Int)) (f : List Int) (hM : ∀ m, m < 64 → rowVal m f = false) : implFold xs f (2 ^ xs.length) 0 (-1) = -1 := by
  obtain ⟨_, _, b3⟩ := implFold_char xs f (2 ^ xs.length) 0 (-1) (.inl rfl)
  rcases b3 with b3 | ⟨μ, _, _, hg, _⟩
  · exact b3
  · unfold goodB at hg
    rw [List.any_eq_true] at hg
    obtain ⟨m, hm, h2⟩ := hg
    rw [hM m (List.mem_range.1 hm), Bool.false_and] at h2
    exact absurd h2 (by decide)
def leastB (xs : List (List Int)) (f : List Int) : Int := if isStore xs = true ∧ isFormula f = true then implFold xs f (2 ^ xs.length) 0 (-1) else -1
theorem leastBack_impl (xs : List (List Int)) (f : List Int) (hf : f.length ≤ 1048576) (hn : xs.length ≤ 1048576) (hi : ∀ y ∈ xs, y.length ≤ 1048576) : Ev (fun k => impl_LeastBack.f k xs f) (leastB xs f) := by
  obtain ⟨bv, hr, hb⟩ := rowsOf_rows f (by omega)
  have hIt : Ev (fun k => impl_LeastBack.j0 k xs (bv.toNat : Int) true) (-1) := Ev.step (fun k => by rw [impl_LeastBack.j0]) (ev_pos rfl (Ev.now _))
  unfold impl_LeastBack.f leastB
  cases hs : isStore xs with
  | false =>
    rw [if_neg (by simp)]
    refine Ev.bind hr (Ev.bind (isStore_impl xs hn hi) (ev_neg (by rw [hs]; decide) ?_))
    exact hIt
  | true =>
    obtain ⟨hlen, hch⟩ := isStore_len hs
    have hok : xs.all isFormula = true := by
      unfold canHoldB at hch
      exact (Bool.and_eq_true_iff.1 hch).1
    cases hff : isFormula f with
    | false =>
      rw [if_neg (by simp)]
      refine Ev.bind hr (Ev.bind (isStore_impl xs hn hi) (ev_pos hs ?_))
      dsimp only
      rw [hff]
      exact hIt
    | true =>
      rw [if_pos ⟨rfl, rfl⟩]
      refine Ev.bind hr (Ev.bind (isStore_impl xs hn hi) (ev_pos hs ?_))
      dsimp only
      rw [hff]
      refine Ev.step (fun k => by rw [impl_LeastBack.j0]) ?_
      refine ev_neg (by decide) ?_
      rw [shl_len ⟨xs.length, by omega⟩]
      exact lbI_l0 xs f bv (hb hff) (2 ^ xs.length) (by calc 2 ^ xs.length ≤ 2 ^ 12 := Nat.pow_le_pow_right (by decide) hlen
                                                            _ = 4096 := by decide) hlen hi hok (2 ^ xs.length) 0 (-1) (by omega)
theorem leastB_cases (xs : List (List Int)) (f : List Int) : (leastB xs f = -1 ∧ ¬ (isStore xs = true ∧ isFormula f = true ∧ ∃ m, m < 64 ∧ rowVal m f = true)) ∨
    (isStore xs = true ∧ isFormula f = true ∧ ∃ j, j < 64 ∧ rowVal j f = true ∧ leastB xs f = cntF xs j ∧ ∀ m, m < 64 → rowVal m f = true → leastB xs f ≤ cntF xs m) := by
  by_cases h : isStore xs = true ∧ isFormula f = true
  · unfold leastB
    rw [if_pos h]
    by_cases hM : ∃ m, m < 64 ∧ rowVal m f = true
    · right
      refine ⟨h.1, h.2, ?_⟩
      rw [← folds_same xs f (isStore_len h.1).1 hM]
      obtain ⟨a1, a2, a3⟩ := specFold_char xs f 64 0 xs.length
      have a4 : ∀ m, m < 64 → rowVal m f = true → specFold xs f 64 0 xs.length ≤ cntF xs m := fun m hm hv => a2 m (by omega) (by omega) hv
      rcases a3 with a3 | ⟨j, _, hj, hv, e⟩
      · obtain ⟨m, hm, hv⟩ := hM
        have h1 := a4 m hm hv
        have h2 : cntF xs m ≤ xs.length := List.countP_le_length
        exact ⟨m, hm, hv, by omega, a4⟩
      · exact ⟨j, by omega, hv, e, a4⟩
    · left
      refine ⟨folds_none xs f fun m hm => ?_, fun h3 => hM h3.2.2⟩
      cases hv : rowVal m f with
      | false => rfl
      | true => exact absurd ⟨m, hm, hv⟩ hM
  · left
    unfold leastB
    rw [if_neg h]
    exact ⟨rfl, fun h3 => h ⟨h3.1, h3.2.1⟩⟩
theorem leastB_le (xs : List (List Int)) (f : List Int) : leastB xs f ≤ xs.length := by
  rcases leastB_cases xs f with ⟨e, _⟩ | ⟨_, _, j, _, _, e, _⟩
  · omega
  · have : cntF xs j ≤ xs.length := List.countP_le_length
    omega
theorem canHold_snoc (xs : List (List Int)) (f : List Int) (h : canHoldB (xs ++ [f]) = true) : isFormula f = true ∧ ∃ m, m < 64 ∧ xs.all (rowVal m) = true ∧ rowVal m f = true := by
  unfold canHoldB at h
  rw [Bool.and_eq_true, List.any_eq_true, List.all_append, Bool.and_eq_true] at h
  obtain ⟨⟨_, h1⟩, m, hm, hv⟩ := h
  rw [List.all_append, Bool.and_eq_true] at hv
  exact ⟨by simpa using h1, m, List.mem_range.1 hm, hv.1, by simpa using hv.2⟩
theorem canHold_snoc_mk (xs : List (List Int)) (f : List Int) (ho : xs.all isFormula = true) (hf : isFormula f = true) (m : Nat) (hm : m < 64) (h1 : xs.all (rowVal m) = true) (h2 : rowVal m f = true) : canHoldB (xs ++ [f]) = true := by
  unfold canHoldB
  rw [Bool.and_eq_true, List.any_eq_true, List.all_append, Bool.and_eq_true]
  refine ⟨⟨ho, by simp [hf]⟩, m, List.mem_range.2 hm, ?_⟩
  rw [List.all_append, h1, Bool.true_and]
  simp [h2]
theorem isStore_all {xs : List (List Int)} (h : isStore xs = true) : xs.all isFormula = true := by
  obtain ⟨_, hch⟩ := isStore_len h
  unfold canHoldB at hch
  exact (Bool.and_eq_true_iff.1 hch).1
theorem leastB_zero (xs : List (List Int)) (f : List Int) (hs : isStore xs = true) : (leastB xs f == 0) = canHoldB (xs ++ [f]) := by
  rw [Bool.eq_iff_iff, beq_iff_eq]
  rcases leastB_cases xs f with ⟨e, hno⟩ | ⟨_, hff, j, hj, hv, e, hall⟩
  · constructor
    · intro h; omega
    · intro h
      obtain ⟨h1, m, hm, _, h2⟩ := canHold_snoc xs f h
      exact absurd ⟨hs, h1, m, hm, h2⟩ hno
  · constructor
    · intro h
      have hc : cntF xs j = 0 := by omega
      unfold cntF at hc
      rw [List.countP_eq_zero] at hc
      refine canHold_snoc_mk xs f (isStore_all hs) hff j hj ?_ hv
      rw [List.all_eq_true]
      intro y hy
      simpa using hc y hy
    · intro h
      obtain ⟨_, m, hm, h1, h2⟩ := canHold_snoc xs f h
      have h3 := hall m hm h2
      have h4 : cntF xs m = 0 := by
        unfold cntF
        rw [List.countP_eq_zero]
        intro y hy
        have := List.all_eq_true.1 h1 y hy
        simp [this]
      omega

theorem copyR_l0 (xs : List (List Int)) (hn : xs.length ≤ 1048576) (hi : ∀ y ∈ xs, y.length ≤ 1048576) : ∀ (zs : List (List Int)) (i : Nat) (acc : List (List Int)), xs.drop i = zs → acc.length = i → Ev (fun k => spec_l12Copy.l0 k xs acc (i : Int)) (acc ++ zs) := by
  intro zs
  induction zs with
  | nil =>
    intro i acc h hl
    have := at_end h
    refine Ev.step (fun k => by rw [spec_l12Copy.l0]) ?_
    exact ev_neg (by omega) (ev_eq (Ev.now _) (by simp))
  | cons z zs ih =>
    intro i acc h hl
    obtain ⟨hlt, hz, h2, _⟩ := at_drop h
    have hr : rd_L1 xs (i : Int) = z := getD_at hz
    have hm := hi z (List.mem_of_getElem? hz)
    refine Ev.step (fun k => by rw [spec_l12Copy.l0]) ?_
    refine ev_pos (by omega) (ev_bind0 (a := ([] : List Int)) rfl (ev_pos (by omega) ?_))
    rw [hr, wrap_id (x := (i : Int) + 1) (by omega) (by omega)]
    refine ev_pos (by simp only [List.length_nil]; omega) (ev_pos (by omega) ?_)
    refine ev_eq (ih (i + 1) (acc ++ [[] ++ z]) h2 (by first | (simp; done) | (simp; omega))) (by simp)
theorem copyR_ev (xs : List (List Int)) (hn : xs.length ≤ 1048576) (hi : ∀ y ∈ xs, y.length ≤ 1048576) : Ev (fun k => spec_l12Copy.f k xs) xs := by
  unfold spec_l12Copy.f
  simpa using copyR_l0 xs hn hi xs 0 [] rfl rfl
theorem cloneR_l0 (xs : List (List Int)) (hn : xs.length ≤ 1048576) (hi : ∀ y ∈ xs, y.length ≤ 1048576) : ∀ (zs : List (List Int)) (i : Nat) (acc : List (List Int)), xs.drop i = zs → acc.length = i → Ev (fun k => impl_cloneStore.l0 k acc xs (xs.length : Int) (i : Int)) (acc ++ zs) := by
  intro zs
  induction zs with
  | nil =>
    intro i acc h hl
    have := at_end h
    refine Ev.step (fun k => by rw [impl_cloneStore.l0]) ?_
    exact ev_neg (by omega) (ev_eq (Ev.now _) (by simp))
  | cons z zs ih =>
    intro i acc h hl
    obtain ⟨hlt, hz, h2, _⟩ := at_drop h
    have hr : rd_L1 xs (i : Int) = z := getD_at hz
    have hm := hi z (List.mem_of_getElem? hz)
    refine Ev.step (fun k => by rw [impl_cloneStore.l0]) ?_
    refine ev_pos (by omega) (ev_pos (by omega) (ev_pos (by omega) ?_))
    rw [hr, wrap_id (x := (i : Int) + 1) (by omega) (by omega)]
    refine ev_bind0 (cloneI_eq z hm) (ev_pos (by omega) ?_)
    refine ev_eq (ih (i + 1) (acc ++ [z]) h2 (by first | (simp; done) | (simp; omega))) (by simp)
theorem cloneR_ev (xs : List (List Int)) (hn : xs.length ≤ 1048576) (hi : ∀ y ∈ xs, y.length ≤ 1048576) : Ev (fun k => impl_cloneStore.f k xs) xs := by
  unfold impl_cloneStore.f
  simpa using cloneR_l0 xs hn hi xs 0 [] rfl rfl
def say (xs : List (List Int)) (f : List Int) : List (List Int) × Bool := if isStore (xs ++ [f]) = true then (xs ++ [f], true) else (xs, false)
theorem say_in {xs : List (List Int)} {f : List Int} (hf : f.length ≤ 1048576) (hi : ∀ y ∈ xs, y.length ≤ 1048576) : ∀ y ∈ xs ++ [f], y.length ≤ 1048576 := by
  intro y hy
  rcases List.mem_append.1 hy with h | h
  · exact hi y h
  · rw [List.mem_singleton.1 h]
    exact hf
theorem say_spec (xs : List (List Int)) (f : List Int) (hf : f.length ≤ 1048576) (hn : xs.length ≤ 1048576) (hi : ∀ y ∈ xs, y.length ≤ 1048576) : Ev (fun k => spec_Say.f k xs f) (say xs f) := by
  have hin := say_in hf hi
  have hlen : (xs ++ [f]).length ≤ 1048577 := by rw [List.length_append, List.length_singleton]; omega
  have hc := copyR_ev xs hn hi
  unfold spec_Say.f
  refine Ev.bind hc (ev_bind0 (a := ([] : List Int)) rfl (ev_pos (by simp only [List.length_nil]; omega) (ev_pos (by omega) (ev_bind0 (a := xs ++ [f]) rfl ?_))))
  unfold say
  refine Ev.bind (isStore_specB (xs ++ [f]) hlen hin) (ev_ite (fun e => ev_eq (Ev.now _) (by rw [if_pos e])) (fun e => Ev.bind hc (ev_eq (Ev.now _) (by rw [if_neg e]))))
theorem say_impl (xs : List (List Int)) (f : List Int) (hf : f.length ≤ 1048576) (hn : xs.length ≤ 1048576) (hi : ∀ y ∈ xs, y.length ≤ 1048576) : Ev (fun k => impl_Say.f k xs f) (say xs f) := by
  have hin := say_in hf hi
  have hlen : (xs ++ [f]).length ≤ 1048577 := by rw [List.length_append, List.length_singleton]; omega
  have hc := cloneR_ev xs hn hi
  unfold impl_Say.f
  refine Ev.bind hc (ev_bind0 (cloneI_eq f hf) (ev_pos (by omega) (ev_bind0 (a := xs ++ [f]) rfl ?_)))
  unfold say
  refine Ev.bind (isStore_implB (xs ++ [f]) hlen hin) (ev_ite (fun e => ev_eq (Ev.now _) (by rw [if_pos e])) (fun e => Ev.bind hc (ev_eq (Ev.now _) (by rw [if_neg e]))))
def quarrels (xs : List (List Int)) (f : List Int) : List (List Int) := if isStore xs && isFormula f then xs.filter (fun x => !canHoldB [x, f]) else []
theorem pair_in {x f : List Int} (hx : x.length ≤ 1048576) (hf : f.length ≤ 1048576) : ∀ y ∈ [x, f], y.length ≤ 1048576 := by
  intro y hy
  rcases List.mem_cons.1 hy with rfl | hy
  · exact hx
  · rcases List.mem_cons.1 hy with rfl | hy
    · exact hf
    · exact absurd hy (by simp)
theorem quarrelsI_l0 (xs : List (List Int)) (f : List Int) (hf : f.length ≤ 1048576) (hn : xs.length ≤ 1048576) (hi : ∀ y ∈ xs, y.length ≤ 1048576) : ∀ (zs : List (List Int)) (i : Nat) (acc : List (List Int)), xs.drop i = zs → acc.length ≤ i → Ev (fun k => impl_Quarrels.l0 k f acc xs (xs.length : Int) (i : Int)) (acc ++ zs.filter (fun x => !canHoldB [x, f])) := by
  intro zs
  induction zs with
  | nil =>
    intro i acc h hl
    have := at_end h
    refine Ev.step (fun k => by rw [impl_Quarrels.l0]) ?_
    exact ev_neg (by omega) (ev_eq (Ev.now _) (by simp))
  | cons z zs ih =>
    intro i acc h hl
    obtain ⟨hlt, hz, h2, _⟩ := at_drop h
    have hr : rd_L1 xs (i : Int) = z := getD_at hz
    have hm := hi z (List.mem_of_getElem? hz)
    refine Ev.step (fun k => by rw [impl_Quarrels.l0]) ?_
    refine ev_pos (by omega) (ev_pos (by omega) (ev_pos (by omega) ?_))
    rw [hr, wrap_id (x := (i : Int) + 1) (by omega) (by omega)]
    refine Ev.bind (canHold_impl [z, f] (by simp) (pair_in hm hf)) (ev_ite (fun e => ?_) (fun e => ev_bind0 (cloneI_eq z hm) (ev_pos (by omega) ?_)))
    · have e' : canHoldB [z, f] = true := e
      refine ev_eq (ih (i + 1) acc h2 (by omega)) ?_
      simp [e']
    · have e' : canHoldB [z, f] = false := Bool.eq_false_iff.mpr e
      refine ev_eq (ih (i + 1) (acc ++ [z]) h2 (by first | (simp; done) | (simp; omega))) ?_
      simp [e']
theorem quarrels_impl (xs : List (List Int)) (f : List Int) (hf : f.length ≤ 1048576) (hn : xs.length ≤ 1048576) (hi : ∀ y ∈ xs, y.length ≤ 1048576) : Ev (fun k => impl_Quarrels.f k xs f) (quarrels xs f) := by
  have out : Ev (fun k => impl_Quarrels.j0 k xs f [] true) ([] : List (List Int)) := Ev.step (fun k => by rw [impl_Quarrels.j0]) (ev_pos rfl (Ev.now _))
  unfold impl_Quarrels.f quarrels
  refine ev_bind0 (a := ([] : List (List Int))) rfl (Ev.bind (isStore_impl xs hn hi) (ev_ite (fun e => ?_) (fun e => ?_)))
  · rw [e, Bool.true_and]
    refine Ev.bind (isFormulaI_ev f (by omega)) ?_
    cases hg : isFormula f with
    | true =>
      rw [if_pos rfl]
      refine Ev.step (fun k => by rw [impl_Quarrels.j0]) (ev_neg (by decide) ?_)
      simpa using quarrelsI_l0 xs f hf hn hi xs 0 [] rfl (by simp)
    | false =>
      rw [if_neg (by simp)]
      exact out
  · rw [show isStore xs = false by simpa using e, Bool.false_and, if_neg (by simp)]
    exact out
theorem quarrels_le (xs : List (List Int)) (f : List Int) (h : 0 < leastB xs f) : ((quarrels xs f).length : Int) ≤ leastB xs f := by
  rcases leastB_cases xs f with ⟨e, _⟩ | ⟨hs, hff, j, hj, hv, e, _⟩
  · omega
  · rw [e]
    unfold quarrels cntF
    rw [hs, hff, Bool.true_and, if_pos rfl, ← List.countP_eq_length_filter]
    have : xs.countP (fun x => !canHoldB [x, f]) ≤ xs.countP (fun g => !rowVal j g) := by
      refine List.countP_mono_left fun x hx hq => ?_
      cases hr : rowVal j x with
      | false => rfl
      | true =>
        have hx2 : isFormula x = true := List.all_eq_true.1 (isStore_all hs) x hx
        have := canHold_snoc_mk [x] f (by simp [hx2]) hff j hj (by simp [hr]) hv
        rw [show [x] ++ [f] = [x, f] from rfl] at this
        rw [this] at hq
        exact absurd hq (by decide)
    omega

def takeBack (xs : List (List Int)) (f : List Int) : List (List Int) × Bool := if rowAt f xs 0 < 0 then (xs, false) else (xs.eraseIdx (rowAt f xs 0).toNat, true)
theorem back_impl (xs : List (List Int)) (f : List Int) (hn : xs.length ≤ 1048576) (hi : ∀ y ∈ xs, y.length ≤ 1048576) : Ev (fun k => impl_TakeBack.f k xs f) (takeBack xs f) := by
  have hb := rowAt_bound f xs 0
  unfold impl_TakeBack.f takeBack
  refine Ev.bind (cloneR_ev xs hn hi) (Ev.bind (formulaAt_ev xs f (by omega) (fun y hy => Nat.le_trans (hi y hy) (by omega))) ?_)
  generalize rowAt f xs 0 = t at hb ⊢
  refine ev_ite (fun e => ev_eq (Ev.now _) (by rw [if_pos e])) (fun e => ?_)
  refine ev_pos (by omega) (ev_pos (by omega) (ev_eq (Ev.now _) (by rw [if_neg e])))

theorem rowAt_neg (f : List Int) : ∀ (rs : List (List Int)) (i : Nat), rowAt f rs i < 0 ↔ f ∉ rs := by
  intro rs
  induction rs with
  | nil => intro i; simp [rowAt]
  | cons r rs ih =>
    intro i
    unfold rowAt
    by_cases e : r = f
    · rw [if_pos e, e]
      simp
    · rw [if_neg e, ih (i + 1)]
      have : ¬ f = r := fun h => e h.symm
      simp [this]
theorem fresh_nodup (xs : List (List Int)) : (List.range xs.length).all (freshAt xs) = true ↔ xs.Nodup := by
  unfold List.Nodup
  rw [List.all_eq_true, List.pairwise_iff_getElem]
  constructor
  · intro h i j hi hj hij e
    have h1 := h j (List.mem_range.2 hj)
    unfold freshAt at h1
    rw [decide_eq_true_eq, rowAt_neg] at h1
    apply h1
    rw [List.mem_take_iff_getElem]
    refine ⟨i, by omega, ?_⟩
    rw [e, List.getD_eq_getElem?_getD, List.getElem?_eq_getElem hj]
    rfl
  · intro h j hj
    have hj := List.mem_range.1 hj
    unfold freshAt
    rw [decide_eq_true_eq, rowAt_neg]
    intro hm
    rw [List.mem_take_iff_getElem] at hm
    obtain ⟨i, hi, e⟩ := hm
    rw [List.getD_eq_getElem?_getD, List.getElem?_eq_getElem hj] at e
    exact h i j (by omega) hj (by omega) e
theorem isStore_sub {xs ys : List (List Int)} (hs : ys.Sublist xs) (h : isStore xs = true) : isStore ys = true := by
  obtain ⟨hl, hc⟩ := isStore_len h
  have hn : xs.Nodup := (fresh_nodup xs).1 (by unfold isStore at h; exact (Bool.and_eq_true_iff.1 h).1)
  have hle := hs.length_le
  unfold isStore
  rw [Bool.and_eq_true, Bool.and_eq_true, decide_eq_true_eq]
  refine ⟨(fresh_nodup ys).2 (hn.sublist hs), by omega, ?_⟩
  unfold canHoldB at hc ⊢
  rw [Bool.and_eq_true, List.all_eq_true, List.any_eq_true] at hc ⊢
  obtain ⟨h1, m, hm, h2⟩ := hc
  refine ⟨fun y hy => h1 y (hs.subset hy), m, hm, ?_⟩
  rw [List.all_eq_true] at h2 ⊢
  exact fun y hy => h2 y (hs.subset hy)
def mustAdmit (xs : List (List Int)) (f : List Int) : Bool := isStore xs && ((List.range 64).all (followsB xs f) && (xs.all isFormula && isFormula f))
theorem mustAdmit_impl (xs : List (List Int)) (f : List Int) (hf : f.length ≤ 1048576) (hn : xs.length ≤ 1048576) (hi : ∀ y ∈ xs, y.length ≤ 1048576) : Ev (fun k => impl_MustAdmit.f k xs f) (mustAdmit xs f) := by
  unfold impl_MustAdmit.f mustAdmit
  exact Ev.bind (isStore_impl xs hn hi) (ev_ite (fun e => Ev.bind (follows_impl xs f (by omega) hn hi) (ev_eq (Ev.now _) (by rw [e, Bool.true_and]))) (fun e => ev_eq (Ev.now _) (by rw [show isStore xs = false by simpa using e, Bool.false_and])))
theorem say_len (xs : List (List Int)) (f : List Int) (n : Nat) (hy : ∀ y ∈ xs, y.length ≤ n) (hf : f.length ≤ n) : (say xs f).1.length ≤ xs.length + 1 ∧ ∀ y ∈ (say xs f).1, y.length ≤ n := by
  unfold say
  split
  · refine ⟨by simp, fun y hm => ?_⟩
    rcases List.mem_append.1 hm with hm | hm
    · exact hy y hm
    · rw [List.mem_singleton.1 hm]; exact hf
  · exact ⟨by dsimp only; omega, hy⟩
theorem l12Draw_l0 (b : List Int) (hb : b.length ≤ 1048576) : ∀ (d : Nat) (xs : List (List Int)) (i h : Int), xs.length + d ≤ 4 → (∀ y ∈ xs, y.length ≤ 15) → Cur b i → ∃ r i2 h2, Ev (fun k => spec_l12Draw.l0 k xs (d : Int) b i h) (r, i2, h2) ∧ r.length ≤ 4 ∧ (∀ y ∈ r, y.length ≤ 15) ∧ Cur b i2 := by
  intro d
  induction d with
  | zero =>
    intro xs i h hl hy hc
    refine ⟨xs, i, h, ?_, by omega, hy, hc⟩
    refine Ev.step (fun k => by rw [spec_l12Draw.l0]) ?_
    exact ev_neg (by omega) (Ev.now _)
  | succ d ih =>
    intro xs i h hl hy hc
    obtain ⟨f, i1, h1, e1, _, hl1, hc1⟩ := l10Draw_ok b hb 2 (by omega) i h hc
    have hl2 : f.length < 8 := hl1
    obtain ⟨s1, s2⟩ := say_len xs f 15 hy (by omega)
    obtain ⟨r, i2, h2, e2, hr1, hr2, hc2⟩ := ih (say xs f).1 i1 h1 (by omega) s2 hc1
    refine ⟨r, i2, h2, ?_, hr1, hr2, hc2⟩
    refine Ev.step (fun k => by rw [spec_l12Draw.l0]) ?_
    rw [wrap_id (by omega) (by omega), show ((d + 1 : Nat) : Int) - 1 = (d : Int) by omega]
    exact ev_pos (by omega) (Ev.bind e1 (Ev.bind (say_spec xs f (by omega) (by omega) (fun y hm => Nat.le_trans (hy y hm) (by omega))) e2))
theorem l12Any_ok (b : List Int) (hb : b.length ≤ 1048576) (i h : Int) (hc : Cur b i) : ∃ r i2 h2, Ev (fun k => spec_l12Any.f k b i h) (r, i2, h2) ∧ r.length ≤ 5 ∧ (∀ y ∈ r, y.length ≤ 15) ∧ Cur b i2 := by
  obtain ⟨q, i1, h1, e1, h0, hlt, _, hc1⟩ := l1Below_ok b i h 5 hc hb
  have := hlt (by omega)
  obtain ⟨r, i2, h2, e2, hr1, hr2, hc2⟩ := l12Draw_l0 b hb q.toNat [] i1 h1 (by rw [List.length_nil]; omega) (by simp) hc1
  rw [show (q.toNat : Int) = q by omega] at e2
  have eD : Ev (fun k => spec_l12Draw.f k b i h) (r, i2, h2) := by
    unfold spec_l12Draw.f
    exact ev_bind0 e1 e2
  obtain ⟨o, i3, h3, e3, hc3⟩ := l1Once_ok b i2 h2 9 hc2 hb
  unfold spec_l12Any.f
  cases o with
  | true =>
    obtain ⟨f, i4, h4, e4, hl4, hc4⟩ := l10Any_ok b hb i3 h3 hc3
    refine ⟨r ++ [f], i4, h4, Ev.bind eD (ev_bind0 e3 (ev_pos rfl (Ev.bind e4 (ev_pos (by dsimp only; omega) (Ev.now _))))), by rw [List.length_append, List.length_singleton]; omega, fun y hm => ?_, hc4⟩
    rcases List.mem_append.1 hm with hm | hm
    · exact hr2 y hm
    · rw [List.mem_singleton.1 hm]; exact hl4
  | false => exact ⟨r, i3, h3, Ev.bind eD (ev_bind0 e3 (ev_neg (by simp) (Ev.now _))), by omega, hr2, hc3⟩
theorem drawSay_ok (b : List Int) (hb : b.length ≤ 1048576) : ∃ l f, Ev (fun k => spec_DrawSay.f k b) (l, f) ∧ l.length ≤ 5 ∧ (∀ y ∈ l, y.length ≤ 15) ∧ f.length ≤ 15 := by
  obtain ⟨h, e0, hc⟩ := l1New_ok b hb
  obtain ⟨l, i1, h1, e1, hl1, hy, hc1⟩ := l12Any_ok b hb 0 h hc
  obtain ⟨f, i2, h2, e2, hl2, _⟩ := l10Any_ok b hb i1 h1 hc1
  unfold spec_DrawSay.f
  exact ⟨l, f, Ev.bind e0 (Ev.bind e1 (Ev.bind e2 (Ev.now _))), hl1, hy, hl2⟩
theorem drawTakeBack_ok (b : List Int) (hb : b.length ≤ 1048576) : ∃ l f, Ev (fun k => spec_DrawTakeBack.f k b) (l, f) ∧ l.length ≤ 5 ∧ (∀ y ∈ l, y.length ≤ 15) ∧ f.length ≤ 15 := by
  obtain ⟨l, f, eD, hl, hy, hf⟩ := drawSay_ok b hb
  obtain ⟨h, e0, hc⟩ := l1New_ok b hb
  unfold spec_DrawTakeBack.f
  by_cases hp : (l.length : Int) > 0
  · obtain ⟨o, i1, h1, e1, hc1⟩ := l1Once_ok b 0 h 3 hc hb
    cases o with
    | true => exact ⟨l, f, Ev.bind eD (Ev.bind e0 (ev_pos hp (ev_bind0 e1 (ev_pos rfl (Ev.now _))))), hl, hy, hf⟩
    | false =>
      obtain ⟨q, i2, h2, e2, hq0, hqlt, _, hc2⟩ := l1Below_ok b i1 h1 (l.length : Int) hc1 hb
      have hq := hqlt (by omega)
      obtain ⟨j, rfl⟩ : ∃ j : Nat, q = (j : Int) := ⟨q.toNat, by omega⟩
      have hjl : j < l.length := by omega
      have hz : l[j]? = some l[j] := List.getElem?_eq_getElem hjl
      have hr : rd_L1 l (j : Int) = l[j] := getD_at hz
      have hlen := hy l[j] (List.mem_of_getElem? hz)
      refine ⟨l, l[j], Ev.bind eD (Ev.bind e0 (ev_pos hp (ev_bind0 e1 (ev_neg (by simp) (ev_bind0 rfl (ev_bind0 e2 (ev_pos hq0 (ev_pos hq ?_)))))))), hl, hy, hlen⟩
      dsimp only
      rw [hr]
      exact ev_pos (by rw [List.length_nil]; omega) (ev_eq (Ev.now _) (by rw [List.nil_append]))
  · exact ⟨l, f, Ev.bind eD (Ev.bind e0 (ev_neg hp (Ev.now _))), hl, hy, hf⟩

theorem small_in {xs : List (List Int)} {n : Nat} (hy : ∀ y ∈ xs, y.length ≤ n) (hn : n ≤ 1048576) : ∀ y ∈ xs, y.length ≤ 1048576 := fun y hm => Nat.le_trans (hy y hm) hn
theorem snoc_in {xs : List (List Int)} {f : List Int} {n : Nat} (hy : ∀ y ∈ xs, y.length ≤ n) (hf : f.length ≤ n) : ∀ y ∈ xs ++ [f], y.length ≤ n := fun y hm => by
  rcases List.mem_append.1 hm with hm | hm
  · exact hy y hm
  · rw [List.mem_singleton.1 hm]; exact hf
theorem FnStores_j4 (l0 : List Int) (hb : l0.length ≤ 1048576) : Ev (fun k => laws_FnStores.j4 k l0 false) true := by
  obtain ⟨a, b, eD, hl, hy, hf⟩ := drawTakeBack_ok l0 hb
  have hy2 := small_in hy (by omega)
  refine Ev.step (fun k => by rw [laws_FnStores.j4]) ?_
  refine ev_neg (by simp) (Ev.bind eD (Ev.bind (back_impl a b (by omega) hy2) ?_))
  unfold takeBack
  by_cases h0 : rowAt b a 0 < 0
  · rw [if_pos h0]
    exact ev_neg (by simp) (ev_eq (Ev.now _) (by simp))
  · rw [if_neg h0]
    have hr := rowAt_bound b a 0
    have hlen : (a.eraseIdx (rowAt b a 0).toNat).length = a.length - 1 := by
      rw [List.length_eraseIdx, if_pos (by omega)]
    have hsub := List.eraseIdx_sublist a (rowAt b a 0).toNat
    refine ev_pos rfl (ev_pos ?_ (Ev.bind (isStore_impl a (by omega) hy2) (ev_ite (fun e => Ev.bind (isStore_impl _ (by dsimp only; omega) (fun y hm => hy2 y (hsub.subset hm))) (ev_pos (isStore_sub hsub e) (Ev.now _))) (fun _ => Ev.now _))))
    dsimp only
    rw [wrap_id (by omega) (by omega), hlen]
    omega
theorem FnStores_j3 (l0 : List Int) (hb : l0.length ≤ 1048576) (l : List (List Int)) (f : List Int) (hl : l.length ≤ 5) (hy : ∀ y ∈ l, y.length ≤ 15) (hf : f.length ≤ 15) : Ev (fun k => laws_FnStores.j3 k l0 l f) true := by
  have h4 := FnStores_j4 l0 hb
  have hy2 := small_in hy (by omega)
  have hle := leastB_le l f
  have tail : Ev (fun k => if leastB l f > 0 then ((impl_Quarrels.f k l f).bind fun t497 => (laws_FnStores.j4 k l0 (decide ((t497.length : Int) > leastB l f)))) else (laws_FnStores.j4 k l0 false)) true := by
    refine ev_ite (fun e => Ev.bind (quarrels_impl l f (by omega) (by omega) hy2) ?_) (fun _ => h4)
    have := quarrels_le l f e
    rw [show decide (((quarrels l f).length : Int) > leastB l f) = false by rw [decide_eq_false_iff_not]; omega]
    exact h4
  refine Ev.step (fun k => by rw [laws_FnStores.j3]) ?_
  refine Ev.bind (leastBack_impl l f (by omega) (by omega) hy2) (Ev.bind (isStore_impl l (by omega) hy2) (ev_ite (fun e => ev_bind0 (with_eq l f (by omega)) (Ev.bind (canHold_impl (l ++ [f]) (by rw [List.length_append, List.length_singleton]; omega) (small_in (snoc_in hy hf) (by omega))) (ev_neg ?_ (ev_neg (by omega) tail)))) (fun _ => ev_neg (by omega) tail)))
  rw [leastB_zero l f e]
  unfold canHoldB
  simp
theorem FnStores_j1 (l0 : List Int) (hb : l0.length ≤ 1048576) (l : List (List Int)) (f : List Int) (hl : l.length ≤ 5) (hy : ∀ y ∈ l, y.length ≤ 15) (hf : f.length ≤ 15) : Ev (fun k => laws_FnStores.j1 k l0 l f) true := by
  have h3 := FnStores_j3 l0 hb l f hl hy hf
  have hy2 := small_in hy (by omega)
  have h2 : Ev (fun k => laws_FnStores.j2 k l0 l f false) true := by
    refine Ev.step (fun k => by rw [laws_FnStores.j2]) ?_
    exact ev_neg (by simp) h3
  have hnl := notOf_len f
  refine Ev.step (fun k => by rw [laws_FnStores.j1]) ?_
  refine Ev.bind (mustAdmit_impl l f (by omega) (by omega) hy2) (ev_ite (fun e => Ev.bind (notOf_impl f (by omega)) ?_) (fun _ => h2))
  by_cases hp : ((notOf f).length : Int) > 0
  · rw [decide_eq_true hp]
    refine Ev.step (fun k => by rw [laws_FnStores.j2]) ?_
    refine ev_pos rfl (Ev.bind (notOf_impl f (by omega)) (Ev.bind (say_impl l (notOf f) (by omega) (by omega) hy2) (ev_neg ?_ h3)))
    unfold say
    by_cases hs : isStore (l ++ [notOf f]) = true
    · exfalso
      obtain ⟨_, m, hm, h1, h5⟩ := canHold_snoc l (notOf f) (isStore_len hs).2
      unfold mustAdmit at e
      rw [Bool.and_eq_true, Bool.and_eq_true, List.all_eq_true] at e
      have h6 := e.2.1 m (List.mem_range.2 hm)
      unfold followsB at h6
      rw [rowVal_notOf f m (by omega)] at h5
      rw [h1] at h6
      revert h5 h6
      cases rowVal m f <;> simp
    · rw [if_neg hs]
      simp
  · rw [decide_eq_false hp]
    exact h2
theorem FnStores (l0 : List Int) (g0 : l0.length ≤ 9223372036854775807 ∧ ∀ y ∈ l0, (Lit.int .u8 y).wf = true) : ∃ k, laws_FnStores.f k l0 = some true := by
  refine Ev.rounds (g := fun k => laws_FnStores.f k l0) ?_
  unfold laws_FnStores.f
  refine ev_bind0 (big_eq l0) (ev_ite (fun _ => Ev.now _) (fun hm => ?_))
  have hb : l0.length ≤ 1048576 := by
    rw [decide_eq_true_eq] at hm
    omega
  obtain ⟨l, f, eD, hl, hy, hf⟩ := drawSay_ok l0 hb
  have h1 := FnStores_j1 l0 hb l f hl hy hf
  have hy2 := small_in hy (by omega)
  refine Ev.bind eD (Ev.bind (say_impl l f (by omega) (by omega) hy2) ?_)
  unfold say
  by_cases hs : isStore (l ++ [f]) = true
  · rw [if_pos hs]
    have hxl : (l ++ [f]).length = l.length + 1 := by rw [List.length_append, List.length_singleton]
    have hxy := small_in (snoc_in hy hf) (by omega)
    have hfm : f ∈ l ++ [f] := by simp
    refine ev_pos rfl (Ev.bind (isStore_impl (l ++ [f]) (by omega) hxy) (ev_pos hs (ev_pos ?_ (Ev.bind (mustAdmit_impl (l ++ [f]) f (by omega) (by omega) hxy) (ev_pos ?_ ?_)))))
    · dsimp only
      rw [wrap_id (by omega) (by omega), hxl]
      omega
    · unfold mustAdmit
      have ho := isStore_all hs
      rw [hs, ho, Bool.true_and, Bool.true_and, Bool.and_eq_true, List.all_eq_true]
      refine ⟨fun m _ => ?_, List.all_eq_true.1 ho f hfm⟩
      unfold followsB
      cases ha : (l ++ [f]).all (rowVal m) with
      | false => rfl
      | true =>
        have := List.all_eq_true.1 ha f hfm
        simp [this]
    · refine Ev.step (fun k => by rw [laws_FnStores.j0]) ?_
      refine ev_neg (by simp) (ev_pos rfl (Ev.bind (back_impl (l ++ [f]) f (by omega) hxy) ?_))
      unfold takeBack
      have h0 : ¬ rowAt f (l ++ [f]) 0 < 0 := fun h => (rowAt_neg f (l ++ [f]) 0).1 h hfm
      have hr := rowAt_bound f (l ++ [f]) 0
      rw [if_neg h0]
      refine ev_pos rfl (ev_pos ?_ h1)
      dsimp only
      rw [List.length_eraseIdx, if_pos (by omega)]
      omega
  · rw [if_neg hs]
    refine ev_neg (by simp) ?_
    dsimp only
    rw [show ((l.length : Int) != (l.length : Int)) = false by simp]
    refine Ev.step (fun k => by rw [laws_FnStores.j0]) ?_
    exact ev_neg (by simp) (ev_neg (by simp) h1)

end Go.Proofs.Ytlbecibchkamjaa.Pure
