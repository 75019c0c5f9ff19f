/- The plain statement of the law FnFormulas, for all numbers and lists. -/
import Derived.Test.YtlbecibchkamjaaPFnFormulasx0
import Derived.Test.YtlbecibchkamjaaPFnFormulasx1
import Derived.Test.YtlbecibchkamjaaPFnFormulasx2
import Derived.Test.YtlbecibchkamjaaPFnFormulasx3
import Derived.Test.YtlbecibchkamjaaPFnFormulasx4
import Derived.Test.YtlbecibchkamjaaPFnFormulasx5
import Derived.Test.YtlbecibchkamjaaPFnFormulasx6
import Derived.Test.YtlbecibchkamjaaBase
set_option linter.unusedVariables false
set_option linter.unusedSimpArgs false
namespace Go.Proofs.Ytlbecibchkamjaa.Pure
open Go.RowKit Go.Proofs.Ytlbecibchkamjaa.PFnFormulas Go.Proofs.YtlbecibchkamjaaW.PrintWords Go.Proofs.YtlbecibchkamjaaW.PrintLast Go.Proofs.YtlbecibchkamjaaW.PrintMore Go.Proofs.Ytlbecibchkamjaa.Base
theorem l1In_eq (x a b : Int) : spec_l1In.f x a b = some (decide (a ≤ x ∧ x ≤ b)) := by
  unfold spec_l1In.f
  by_cases h : a ≤ x <;> simp [h]
theorem inRange_eq (x a b : Int) : impl_InRange.f x a b = some (decide (a ≤ x ∧ x ≤ b)) := by
  unfold impl_InRange.f
  by_cases h : a ≤ x <;> simp [h]

/-- Where a reader of draws stands: within its bytes. -/
def Cur (b : List Int) (i : Int) : Prop := 0 ≤ i ∧ i ≤ b.length
theorem and255 (x : Int) : 0 ≤ Go.bits .and .i64 x 255 ∧ Go.bits .and .i64 x 255 ≤ 255 := by
  have h : (BitVec.ofInt 64 x &&& BitVec.ofInt 64 255).toNat ≤ 255 := by
    rw [BitVec.toNat_and]
    have h2 : (BitVec.ofInt 64 255).toNat = 255 := by decide
    rw [h2]
    exact Nat.and_le_right
  have e : Go.bits .and .i64 x 255 = IntKind.i64.wrap ((BitVec.ofInt 64 x &&& BitVec.ofInt 64 255).toNat : Int) := rfl
  rw [e, IntKind.wrap_i64]
  omega
theorem l1Byte_ok (b : List Int) (i h : Int) (hc : Cur b i) (hb : b.length ≤ 1048576) : ∃ r i2 h2, spec_l1Byte.f b i h = some (r, i2, h2) ∧ (0 ≤ r ∧ r ≤ 255) ∧ Cur b i2 := by
  obtain ⟨hc0, hc1⟩ := hc
  unfold spec_l1Byte.f
  by_cases hi : i < (b.length : Int)
  · rw [if_pos hi, if_pos hc0, wrap_id (x := i + 1) (by omega) (by omega)]
    exact ⟨_, _, _, rfl, and255 _, by unfold Cur; omega⟩
  · rw [if_neg hi]
    exact ⟨_, _, _, rfl, and255 _, hc0, hc1⟩
theorem tmod_ok (x n : Int) (hx : 0 ≤ x) (hn : 0 < n) : 0 ≤ Int.tmod x n ∧ Int.tmod x n < n := by
  rw [Int.tmod_eq_emod_of_nonneg hx]
  exact ⟨Int.emod_nonneg _ (by omega), Int.emod_lt_of_pos _ hn⟩
theorem l1Below_ok (b : List Int) (i h n : Int) (hc : Cur b i) (hb : b.length ≤ 1048576) : ∃ r i2 h2, spec_l1Below.f b i h n = some (r, i2, h2) ∧ 0 ≤ r ∧ (0 < n → r < n) ∧ (n ≤ 0 → r = 0) ∧ Cur b i2 := by
  unfold spec_l1Below.f
  by_cases h0 : n ≤ 0
  · rw [if_pos h0]
    exact ⟨_, _, _, rfl, by omega, by omega, fun _ => rfl, hc⟩
  · rw [if_neg h0]
    by_cases h1 : n ≤ 256
    · obtain ⟨r, i2, h2, e, hr, hc2⟩ := l1Byte_ok b i h hc hb
      rw [if_pos h1, e]
      simp only [Option.bind_some]
      rw [if_neg (by omega)]
      exact ⟨_, _, _, rfl, (tmod_ok r n hr.1 (by omega)).1, fun _ => (tmod_ok r n hr.1 (by omega)).2, by omega, hc2⟩
    · obtain ⟨r, i2, h2, e, hr, hc2⟩ := l1Byte_ok b i h hc hb
      obtain ⟨r3, i3, h3, e3, hr3, hc3⟩ := l1Byte_ok b i2 h2 hc2 hb
      obtain ⟨r4, i4, h4, e4, hr4, hc4⟩ := l1Byte_ok b i3 h3 hc3 hb
      rw [if_neg h1, e]
      simp only [Option.bind_some]
      rw [e3]
      simp only [Option.bind_some]
      rw [e4]
      simp only [Option.bind_some]
      rw [if_neg (by omega), wrap_id (x := r * 65536) (by omega) (by omega), wrap_id (x := r3 * 256) (by omega) (by omega), wrap_id (x := r * 65536 + r3 * 256) (by omega) (by omega), wrap_id (x := r * 65536 + r3 * 256 + r4) (by omega) (by omega)]
      exact ⟨_, _, _, rfl, (tmod_ok _ n (by omega) (by omega)).1, fun _ => (tmod_ok _ n (by omega) (by omega)).2, by omega, hc4⟩
theorem l1New_l0 (b : List Int) (hb : b.length ≤ 1048576) : ∀ (zs : List Int) (i : Nat) (h : Int), b.drop i = zs → ∃ h2, Ev (fun k => spec_l1New.l0 k b h (i : Int)) (b, 0, h2) := by
  intro zs
  induction zs with
  | nil =>
    intro i h hd
    have := at_end hd
    refine ⟨h, Ev.step (fun k => by rw [spec_l1New.l0]) ?_⟩
    exact ev_neg (by omega) (Ev.now _)
  | cons z zs ih =>
    intro i h hd
    obtain ⟨hi, hz, hd2, _⟩ := at_drop hd
    by_cases h4 : (i : Int) < 4000
    · obtain ⟨h2, hev⟩ := ih (i + 1) (Go.bits .and .i64 (wrap64 ((wrap64 ((wrap64 (h * 137)) + (wrap64 (rd b (i : Int))))) + 11)) 1073741823) hd2
      refine ⟨h2, Ev.step (fun k => by rw [spec_l1New.l0]) ?_⟩
      refine ev_pos (by omega) (ev_pos h4 (ev_pos (by omega) ?_))
      rw [wrap_id (x := (i : Int) + 1) (by omega) (by omega)]
      exact hev
    · refine ⟨h, Ev.step (fun k => by rw [spec_l1New.l0]) ?_⟩
      exact ev_pos (by omega) (ev_neg h4 (Ev.now _))
theorem l1New_ok (b : List Int) (hb : b.length ≤ 1048576) : ∃ h2, Ev (fun k => spec_l1New.f k b) (b, 0, h2) ∧ Cur b 0 := by
  unfold spec_l1New.f
  obtain ⟨h2, hev⟩ := l1New_l0 b hb b 0 (wrap64 (193017 + (b.length : Int))) rfl
  exact ⟨h2, hev, by unfold Cur; omega⟩
theorem l1Int_ok (b : List Int) (i h : Int) (l : List Int) (hc : Cur b i) (hb : b.length ≤ 1048576) (hl : 0 < l.length) : ∃ r i2 h2, spec_l1Int.f b i h l = some (r, i2, h2) ∧ r ∈ l ∧ Cur b i2 := by
  unfold spec_l1Int.f
  obtain ⟨r, i2, h2, e, h0, hlt, _, hc2⟩ := l1Below_ok b i h (l.length : Int) hc hb
  have := hlt (by omega)
  rw [e]
  simp only [Option.bind_some]
  rw [if_pos h0, if_pos this]
  refine ⟨_, _, _, rfl, ?_, hc2⟩
  obtain ⟨n, rfl⟩ : ∃ n : Nat, r = n := ⟨r.toNat, by omega⟩
  rw [rd_nat l n (by omega)]
  exact List.getElem_mem _
theorem l1Once_ok (b : List Int) (i h n : Int) (hc : Cur b i) (hb : b.length ≤ 1048576) : ∃ (r : Bool) (i2 h2 : Int), spec_l1Once.f b i h n = some (r, i2, h2) ∧ Cur b i2 := by
  unfold spec_l1Once.f
  obtain ⟨r, i2, h2, e, _, _, _, hc2⟩ := l1Below_ok b i h n hc hb
  rw [e]
  exact ⟨_, _, _, rfl, hc2⟩
theorem ascends_l0 (xs : List Int) (hn : xs.length ≤ 9223372036854775807) : ∀ (zs : List Int) (i : Nat) (p : Int), xs.drop i = zs → 0 < i → xs[i - 1]? = some p → ∃ r, Ev (fun k => laws_ascends.l0 k xs (i : Int)) r ∧ (r = true ↔ (p :: zs).Pairwise (· < ·)) := by
  intro zs
  induction zs with
  | nil =>
    intro i p h hi hp
    have := at_end h
    refine ⟨true, Ev.step (fun k => by rw [laws_ascends.l0]) ?_, by simp⟩
    exact ev_neg (by omega) (Ev.now _)
  | cons z zs ih =>
    intro i p h hi hp
    obtain ⟨hlt, hz, h2, _⟩ := at_drop h
    have e1 : rd xs ((i : Int) - 1) = p := by
      rw [show (i : Int) - 1 = ((i - 1 : Nat) : Int) by omega]
      exact rd_get hp
    by_cases hpz : p < z
    · obtain ⟨r, hev, hiff⟩ := ih (i + 1) z h2 (by omega) (by simpa using hz)
      refine ⟨r, Ev.step (fun k => by rw [laws_ascends.l0]) ?_, ?_⟩
      · rw [wrap_id (x := (i : Int) - 1) (by omega) (by omega), wrap_id (x := (i : Int) + 1) (by omega) (by omega), e1, rd_get hz]
        exact ev_pos (by omega) (ev_pos (by omega) (ev_pos (by omega) (ev_pos (by omega) (ev_neg (by omega) hev))))
      · rw [hiff]
        constructor
        · intro hh
          refine List.pairwise_cons.2 ⟨?_, hh⟩
          intro a ha
          rcases List.mem_cons.1 ha with rfl | ha
          · exact hpz
          · have := (List.pairwise_cons.1 hh).1 a ha
            omega
        · intro hh
          exact (List.pairwise_cons.1 hh).2
    · refine ⟨false, Ev.step (fun k => by rw [laws_ascends.l0]) ?_, ?_⟩
      · rw [wrap_id (x := (i : Int) - 1) (by omega) (by omega), wrap_id (x := (i : Int) + 1) (by omega) (by omega), e1, rd_get hz]
        exact ev_pos (by omega) (ev_pos (by omega) (ev_pos (by omega) (ev_pos (by omega) (ev_pos (by omega) (Ev.now _)))))
      · simp [hpz]
theorem ascends_ev (xs : List Int) (hn : xs.length ≤ 9223372036854775807) : ∃ r, Ev (fun k => laws_ascends.f k xs) r ∧ (r = true ↔ xs.Pairwise (· < ·)) := by
  unfold laws_ascends.f
  cases xs with
  | nil =>
    refine ⟨true, Ev.step (fun k => by rw [laws_ascends.l0]) ?_, by simp⟩
    exact ev_neg (by simp) (Ev.now _)
  | cons x r => exact ascends_l0 (x :: r) hn r 1 x rfl (by omega) rfl
theorem big_eq (b : List Int) : laws_big.f b = some (decide ((b.length : Int) > 1048576)) := rfl

/-- How many values are on the pile behind a formula's signs, from n on. -/
def shape : List Int → Nat → Option Nat
  | [], n => some n
  | s :: r, n => if 0 ≤ s ∧ s ≤ 5 then shape r (n + 1) else if s = -1 then (if 1 ≤ n then shape r n else none) else if -4 ≤ s ∧ s ≤ -2 then (if 2 ≤ n then shape r (n - 1) else none) else none
def isFormula (f : List Int) : Bool := decide (shape f 0 = some 1) && decide (f.length ≤ 24)
/-- The pile (its top first) behind a formula's signs. -/
def evalS {β : Type} (lit : Int → β) (no : β → β) (op : Int → β → β → β) : List Int → List β → Option (List β)
  | [], st => some st
  | s :: r, st => if 0 ≤ s ∧ s ≤ 5 then evalS lit no op r (lit s :: st) else if s = -1 then (match st with | x :: st2 => evalS lit no op r (no x :: st2) | [] => none) else if -4 ≤ s ∧ s ≤ -2 then (match st with | b :: a :: st2 => evalS lit no op r (op s a b :: st2) | _ => none) else none
theorem evalS_shape {β : Type} (lit : Int → β) (no : β → β) (op : Int → β → β → β) : ∀ (f : List Int) (st : List β), (evalS lit no op f st).map List.length = shape f st.length := by
  intro f
  induction f with
  | nil => intro st; rfl
  | cons s r ih =>
    intro st
    unfold evalS shape
    by_cases h0 : 0 ≤ s ∧ s ≤ 5
    · rw [if_pos h0, if_pos h0, ih]; rfl
    · rw [if_neg h0, if_neg h0]
      by_cases h1 : s = -1
      · rw [if_pos h1, if_pos h1]
        cases st with
        | nil => rfl
        | cons x st2 => rw [if_pos (by simp)]; dsimp only; rw [ih]; rfl
      · rw [if_neg h1, if_neg h1]
        by_cases h2 : -4 ≤ s ∧ s ≤ -2
        · rw [if_pos h2, if_pos h2]
          match st with
          | [] => rfl
          | [x] => rfl
          | b :: a :: st2 => rw [if_pos (by simp)]; dsimp only; rw [ih]; rfl
        · rw [if_neg h2, if_neg h2]; rfl
/-- One homomorphism's image of the other's pile. -/
theorem evalS_map {β γ : Type} {lit : Int → β} {no : β → β} {op : Int → β → β → β} {lit2 : Int → γ} {no2 : γ → γ} {op2 : Int → γ → γ → γ} (h : β → γ)
    (h0 : ∀ s, 0 ≤ s → s ≤ 5 → h (lit s) = lit2 s) (h1 : ∀ x, h (no x) = no2 (h x)) (h2 : ∀ s a b, -4 ≤ s → s ≤ -2 → h (op s a b) = op2 s (h a) (h b)) :
    ∀ (f : List Int) (st : List β), evalS lit2 no2 op2 f (st.map h) = (evalS lit no op f st).map (List.map h) := by
  intro f
  induction f with
  | nil => intro st; rfl
  | cons s r ih =>
    intro st
    unfold evalS
    by_cases k0 : 0 ≤ s ∧ s ≤ 5
    · rw [if_pos k0, if_pos k0, ← ih, List.map_cons, h0 s k0.1 k0.2]
    · rw [if_neg k0, if_neg k0]
      by_cases k1 : s = -1
      · rw [if_pos k1, if_pos k1]
        cases st with
        | nil => rfl
        | cons x st2 => simp only [List.map_cons]; rw [← ih, List.map_cons, h1]
      · rw [if_neg k1, if_neg k1]
        by_cases k2 : -4 ≤ s ∧ s ≤ -2
        · rw [if_pos k2, if_pos k2]
          match st with
          | [] => rfl
          | [x] => rfl
          | b :: a :: st2 => simp only [List.map_cons]; rw [← ih, List.map_cons, h2 s a b k2.1 k2.2]
        · rw [if_neg k2, if_neg k2]; rfl
def opB (s : Int) (a b : Bool) : Bool := if s = -2 then a && b else if s = -3 then a || b else !a || b
/-- A formula's value where v has the letters' values; false where it is no formula. -/
def valB (v : Nat → Bool) (f : List Int) : Bool := match evalS (fun s => v s.toNat) (fun x => !x) opB f [] with | some [x] => x | _ => false
def value (v : Nat → Bool) (f : List Int) : Bool := isFormula f && valB v f
theorem isFormula_spec_l0 (xs : List Int) (hn : xs.length ≤ 9223372036854775800) : ∀ (zs : List Int) (i n : Nat), xs.drop i = zs → n ≤ i → Ev (fun k => spec_IsFormula.l0 k xs (n : Int) (i : Int)) (decide (shape zs n = some 1) && decide (xs.length ≤ 24)) := by
  intro zs
  induction zs with
  | nil =>
    intro i n h _
    have := at_end h
    refine Ev.step (fun k => by rw [spec_IsFormula.l0]) ?_
    refine ev_neg (by omega) (ev_ite (fun e => ev_eq (Ev.now _) ?_) (fun e => ev_eq (Ev.now _) ?_))
    · have : n = 1 := by omega
      subst this
      simp [shape]
      omega
    · have : n ≠ 1 := by omega
      simp [shape, this]
  | cons z zs ih =>
    intro i n h hni
    obtain ⟨hi, hz, h2, _⟩ := at_drop h
    refine Ev.step (fun k => by rw [spec_IsFormula.l0]) ?_
    refine ev_pos (by omega) (ev_pos (by omega) ?_)
    rw [rd_get hz, wrap_id (x := (i : Int) + 1) (by omega) (by omega)]
    have hsh : shape (z :: zs) n = if 0 ≤ z ∧ z ≤ 5 then shape zs (n + 1) else if z = -1 then (if 1 ≤ n then shape zs n else none) else if -4 ≤ z ∧ z ≤ -2 then (if 2 ≤ n then shape zs (n - 1) else none) else none := rfl
    rw [hsh]
    refine ev_bind0 (l1In_eq _ _ _) (ev_ite (fun e0 => ?_) (fun e0 => ?_))
    · simp only [decide_eq_true_eq] at e0
      rw [if_pos e0, wrap_id (by omega) (by omega)]
      exact ih (i + 1) (n + 1) h2 (by omega)
    · simp only [decide_eq_true_eq] at e0
      rw [if_neg e0]
      have tail : z ≠ -1 ∨ ¬ 1 ≤ n → Ev (fun k => spec_IsFormula.j1 k xs (n : Int) (i : Int) false) (decide ((if z = -1 then (if 1 ≤ n then shape zs n else none) else if -4 ≤ z ∧ z ≤ -2 then (if 2 ≤ n then shape zs (n - 1) else none) else none) = some 1) && decide (xs.length ≤ 24)) := by
        intro hz1
        refine Ev.step (fun k => by rw [spec_IsFormula.j1]) ?_
        refine ev_neg (by decide) (ev_pos (by omega) (ev_pos (by omega) ?_))
        rw [rd_get hz, wrap_id (x := (i : Int) + 1) (by omega) (by omega)]
        refine ev_bind0 (l1In_eq _ _ _) (ev_ite (fun e2 => ?_) (fun e2 => ev_eq (Ev.now _) ?_))
        · simp only [decide_eq_true_eq] at e2
          rw [if_neg (show ¬ z = -1 by omega), if_pos e2]
          refine ev_ite (fun e3 => ?_) (fun e3 => ev_eq (Ev.now _) ?_)
          · rw [if_pos (by omega), wrap_id (by omega) (by omega), show (n : Int) - 1 = ((n - 1 : Nat) : Int) by omega]
            exact ih (i + 1) (n - 1) h2 (by omega)
          · rw [if_neg (by omega)]
            simp
        · simp only [decide_eq_true_eq] at e2
          rw [if_neg e2]
          rcases hz1 with hz1 | hz1
          · rw [if_neg hz1]; simp
          · rw [if_neg hz1]; simp
      refine ev_ite (fun e1 => ?_) (fun e1 => tail (.inl e1))
      by_cases hn1 : 1 ≤ n
      · rw [if_pos e1, if_pos hn1, show decide ((n : Int) ≥ 1) = true by simp; omega]
        refine Ev.step (fun k => by rw [spec_IsFormula.j1]) (ev_pos rfl ?_)
        rw [wrap_id (x := (i : Int) + 1) (by omega) (by omega)]
        exact ih (i + 1) n h2 (by omega)
      · rw [show decide ((n : Int) ≥ 1) = false by simp; omega]
        exact tail (.inr hn1)
theorem isFormula_spec (f : List Int) (hn : f.length ≤ 9223372036854775800) : Ev (fun k => spec_IsFormula.f k f) (isFormula f) := by
  unfold spec_IsFormula.f
  exact isFormula_spec_l0 f hn f 0 0 rfl (by omega)
theorem shape_bound : ∀ (f : List Int) (n m : Nat), shape f n = some m → m ≤ n + f.length := by
  intro f
  induction f with
  | nil => intro n m h; simp [shape] at h; omega
  | cons s r ih =>
    intro n m h
    unfold shape at h
    rw [List.length_cons]
    split at h
    · have := ih _ _ h; omega
    · split at h
      · split at h
        · have := ih _ _ h; omega
        · simp at h
      · split at h
        · split at h
          · have := ih _ _ h; omega
          · simp at h
        · simp at h
/-- A formula's value in row m. -/
def rowVal (m : Nat) (f : List Int) : Bool := value (fun k => m.testBit k) f
theorem wrap_u64_ (n : Int) : IntKind.u64.wrap n = n % 18446744073709551616 := by simp [IntKind.wrap, IntKind.bits, IntKind.signed]
theorem bits_and_bv (a b : BitVec 64) : Go.bits .and .u64 (a.toNat : Int) (b.toNat : Int) = ((a &&& b).toNat : Int) := by
  show IntKind.u64.wrap ((BitVec.ofInt 64 (a.toNat : Int) &&& BitVec.ofInt 64 (b.toNat : Int)).toNat : Int) = _
  rw [BitVec.ofInt_natCast, BitVec.ofInt_natCast, BitVec.ofNat_toNat, BitVec.ofNat_toNat, BitVec.setWidth_eq, BitVec.setWidth_eq]
  have := (a &&& b).isLt
  rw [wrap_u64_]
  omega
theorem bits_or_bv (a b : BitVec 64) : Go.bits .or .u64 (a.toNat : Int) (b.toNat : Int) = ((a ||| b).toNat : Int) := by
  show IntKind.u64.wrap ((BitVec.ofInt 64 (a.toNat : Int) ||| BitVec.ofInt 64 (b.toNat : Int)).toNat : Int) = _
  rw [BitVec.ofInt_natCast, BitVec.ofInt_natCast, BitVec.ofNat_toNat, BitVec.ofNat_toNat, BitVec.setWidth_eq, BitVec.setWidth_eq]
  have := (a ||| b).isLt
  rw [wrap_u64_]
  omega
theorem bits_not_bv (a : BitVec 64) : Go.bits .xor .u64 18446744073709551615 (a.toNat : Int) = ((~~~a).toNat : Int) := by
  show IntKind.u64.wrap ((BitVec.ofInt 64 18446744073709551615 ^^^ BitVec.ofInt 64 (a.toNat : Int)).toNat : Int) = _
  have h1 : BitVec.ofInt 64 18446744073709551615 = BitVec.allOnes 64 := by decide
  rw [h1, BitVec.ofInt_natCast, BitVec.ofNat_toNat, BitVec.setWidth_eq, BitVec.allOnes_xor]
  have := (~~~a).isLt
  rw [wrap_u64_]
  omega
def letterBV (s : Int) : BitVec 64 := if s = 0 then 12297829382473034410#64 else if s = 1 then 14757395258967641292#64 else if s = 2 then 17361641481138401520#64 else if s = 3 then 18374966859414961920#64 else if s = 4 then 18446462603027742720#64 else 18446744069414584320#64
theorem letterRows_all : ∀ s : Fin 6, impl_letterRows.f 65 ((s.val : Nat) : Int) = some ((letterBV ((s.val : Nat) : Int)).toNat : Int) := by decide +kernel
theorem letterRows_ev (s : Int) (h0 : 0 ≤ s) (h5 : s ≤ 5) : Ev (fun k => impl_letterRows.f k s) ((letterBV s).toNat : Int) := by
  have := letterRows_all ⟨s.toNat, by omega⟩
  rw [show ((s.toNat : Nat) : Int) = s by omega] at this
  exact Ev.of (impl_letterRows.mono s) (k := 65) this
theorem letterBV_bit : ∀ (s : Fin 6) (m : Fin 64), (letterBV ((s.val : Nat) : Int)).getLsbD m.val = m.val.testBit s.val := by decide +kernel
def opV (s : Int) (a b : BitVec 64) : BitVec 64 := if s = -2 then a &&& b else if s = -3 then a ||| b else ~~~a ||| b
def rowsE (f : List Int) : Option (List (BitVec 64)) := evalS letterBV (fun x => ~~~x) opV f []
/-- The rows that rowsOf answers with. -/
def rowsBV (f : List Int) : BitVec 64 := match rowsE f with | some st => st.getLastD 0#64 | none => 0#64
theorem rd_snoc (x : Int) (l : List Int) (i : Int) (h : i = l.length) : rd (l ++ [x]) i = x := by
  subst h
  unfold rd
  simp
theorem iset_snoc (x y : Int) (l : List Int) (i : Int) (h : i = l.length) : (l ++ [x]).set i.toNat y = l ++ [y] := by
  subst h
  rw [Int.toNat_natCast, List.set_append_right _ _ (Nat.le_refl _)]
  simp
theorem itake_snoc (x : Int) (l : List Int) (i : Int) (h : i = l.length) : (l ++ [x]).take i.toNat = l := by
  subst h
  simp
/-- The pile as the program has it: numbers, the top last. -/
def pileV (st : List (BitVec 64)) : List Int := (st.map fun x => (x.toNat : Int)).reverse
theorem pileV_cons (x : BitVec 64) (st : List (BitVec 64)) : pileV (x :: st) = pileV st ++ [(x.toNat : Int)] := by simp [pileV]
theorem pileV_length (st : List (BitVec 64)) : (pileV st).length = st.length := by simp [pileV]
theorem pileV_first (st : List (BitVec 64)) (h : st ≠ []) : rd (pileV st) 0 = ((st.getLastD 0#64).toNat : Int) := by
  unfold rd pileV
  cases st with
  | nil => exact absurd rfl h
  | cons a st =>
    rw [Int.toNat_zero, List.getD_eq_getElem?_getD, ← List.head?_eq_getElem?, List.head?_reverse, List.getLast?_map, List.getLast?_eq_some_getLast h]
    simp [List.getLastD]
def rowsAns (o : Option (List (BitVec 64))) : Int × Bool := match o with | some st => (((st.getLastD 0#64).toNat : Int), decide (st.length = 1)) | none => (0, false)
theorem rowsOf_l0 (xs : List Int) (hn : xs.length ≤ 24) : ∀ (zs : List Int) (i : Nat) (st : List (BitVec 64)), xs.drop i = zs → st.length ≤ i → (zs = [] → st ≠ []) → (st = [] → i = 0) →
    Ev (fun k => impl_rowsOf.l0 k (pileV st) xs xs.length (i : Int)) (rowsAns (evalS letterBV (fun x => ~~~x) opV zs st)) := by
  intro zs
  induction zs with
  | nil =>
    intro i st h hst hne _
    have := at_end h
    have hp := pileV_length st
    have : 0 < st.length := List.length_pos_iff.2 (hne rfl)
    refine Ev.step (fun k => by rw [impl_rowsOf.l0]) ?_
    refine ev_neg (by omega) (ev_pos (by omega) (ev_eq (Ev.now _) ?_))
    rw [pileV_first st (hne rfl), hp]
    simp only [evalS, rowsAns]
    refine Prod.ext rfl ?_
    rw [Bool.eq_iff_iff]
    simp
    omega
  | cons z zs ih =>
    intro i st h hst hne hi0
    obtain ⟨hi, hz, h2, _⟩ := at_drop h
    have hp := pileV_length st
    refine Ev.step (fun k => by rw [impl_rowsOf.l0]) ?_
    refine ev_pos (by omega) (ev_pos (by omega) (ev_pos (by omega) ?_))
    rw [rd_get hz, wrap_id (x := (i : Int) + 1) (by omega) (by omega)]
    unfold evalS
    refine ev_bind0 (inRange_eq _ _ _) (ev_ite (fun e0 => ?_) (fun e0 => ?_))
    · simp only [decide_eq_true_eq] at e0
      rw [if_pos e0]
      refine Ev.bind (letterRows_ev z e0.1 e0.2) (ev_pos (by omega) ?_)
      have ih2 := ih (i + 1) (letterBV z :: st) h2 (by first | (simp; done) | (simp; omega)) (by simp) (by simp)
      rw [pileV_cons] at ih2
      exact ih2
    · simp only [decide_eq_true_eq] at e0
      rw [if_neg e0]
      have no2 : ¬ (-4 ≤ z ∧ z ≤ -2) ∨ ¬ 2 ≤ st.length → Ev (fun k => impl_rowsOf.j2 k (pileV st) z ((pileV st).length : Int) xs xs.length (i : Int) false) ((0, false) : Int × Bool) := by
        intro _
        refine Ev.step (fun k => by rw [impl_rowsOf.j2]) ?_
        exact ev_neg (by decide) (Ev.now _)
      by_cases e1 : z = -1
      · rw [if_pos e1]
        refine ev_pos e1 ?_
        cases st with
        | nil =>
          rw [show decide (((pileV []).length : Int) ≥ 1) = false by rfl]
          refine Ev.step (fun k => by rw [impl_rowsOf.j1]) ?_
          refine ev_neg (by decide) (ev_bind0 (inRange_eq _ _ _) (ev_neg (by first | (simp; done) | (simp; omega)) (no2 (.inr (by simp)))))
        | cons x st2 =>
          rw [show decide (((pileV (x :: st2)).length : Int) ≥ 1) = true by rw [pileV_length]; simp; omega]
          refine Ev.step (fun k => by rw [impl_rowsOf.j1]) ?_
          refine ev_pos rfl ?_
          have ih2 := ih (i + 1) ((~~~x) :: st2) h2 (by simp only [List.length_cons] at hst ⊢; omega) (by simp) (by simp)
          simp only [List.length_cons] at hst hp
          rw [pileV_cons] at ih2
          rw [hp, wrap_id (x := ((st2.length + 1 : Nat) : Int) - 1) (by omega) (by omega), wrap_id (x := (i : Int) + 1) (by omega) (by omega)]
          refine ev_pos (by omega) (ev_pos (by omega) ?_)
          rw [pileV_cons, rd_snoc _ _ _ (by rw [pileV_length]; omega), bits_not_bv, iset_snoc _ _ _ _ (by rw [pileV_length]; omega)]
          exact ih2
      · rw [if_neg e1]
        refine ev_neg e1 (Ev.step (fun k => by rw [impl_rowsOf.j1]) ?_)
        refine ev_neg (by decide) (ev_bind0 (inRange_eq _ _ _) (ev_ite (fun e2 => ?_) (fun e2 => ?_)))
        · simp only [decide_eq_true_eq] at e2
          rw [if_pos e2]
          match st with
          | [] => exact no2 (.inr (by simp))
          | [x] => exact no2 (.inr (by simp))
          | b :: a :: st2 =>
            simp only [List.length_cons] at hst hp
            dsimp only
            rw [hp, show decide (((st2.length + 1 + 1 : Nat) : Int) ≥ 2) = true by simp; omega]
            refine Ev.step (fun k => by rw [impl_rowsOf.j2]) ?_
            refine ev_pos rfl ?_
            have ih2 := ih (i + 1) (opV z a b :: st2) h2 (by first | (simp; done) | (simp; omega)) (by simp) (by simp)
            rw [pileV_cons] at ih2
            rw [hp, wrap_id (x := ((st2.length + 1 + 1 : Nat) : Int) - 2) (by omega) (by omega), wrap_id (x := ((st2.length + 1 + 1 : Nat) : Int) - 1) (by omega) (by omega), wrap_id (x := (i : Int) + 1) (by omega) (by omega)]
            refine ev_pos (by omega) (ev_pos (by omega) (ev_pos (by omega) (ev_pos (by omega) (ev_pos (by omega) ?_))))
            have hb : rd (pileV (b :: a :: st2)) (((st2.length + 1 + 1 : Nat) : Int) - 1) = (b.toNat : Int) := by
              rw [pileV_cons]
              exact rd_snoc _ _ _ (by rw [pileV_length]; first | (simp; done) | (simp; omega))
            have ha : rd (pileV (b :: a :: st2)) (((st2.length + 1 + 1 : Nat) : Int) - 2) = (a.toNat : Int) := by
              rw [pileV_cons, pileV_cons, show ((st2.length + 1 + 1 : Nat) : Int) - 2 = ((pileV st2).length : Int) by rw [pileV_length]; omega]
              unfold rd
              simp
            have ht : (pileV (b :: a :: st2)).take (((st2.length + 1 + 1 : Nat) : Int) - 1).toNat = pileV st2 ++ [(a.toNat : Int)] := by
              rw [pileV_cons, itake_snoc _ _ _ (by rw [pileV_length]; first | (simp; done) | (simp; omega)), pileV_cons]
            rw [hb, ha, ht]
            refine ev_bind0 rfl ?_
            have hlt : ((st2.length + 1 + 1 : Nat) : Int) - 2 < ((pileV st2 ++ [(a.toNat : Int)]).length : Int) := by rw [List.length_append, pileV_length]; simp; omega
            have hset : ∀ y : Int, (pileV st2 ++ [(a.toNat : Int)]).set (((st2.length + 1 + 1 : Nat) : Int) - 2).toNat y = pileV st2 ++ [y] := fun y => iset_snoc _ _ _ _ (by rw [pileV_length]; omega)
            refine ev_ite (fun e3 => ev_pos hlt ?_) (fun e3 => ev_ite (fun e4 => ev_pos hlt ?_) (fun e4 => ev_pos hlt ?_))
            · rw [bits_and_bv, hset]
              rw [show opV z a b = a &&& b by simp [opV, e3]] at ih2 ⊢
              exact ih2
            · rw [bits_or_bv, hset]
              rw [show opV z a b = a ||| b by simp [opV, e4]] at ih2 ⊢
              exact ih2
            · rw [bits_not_bv, bits_or_bv, hset]
              rw [show opV z a b = ~~~a ||| b by simp [opV, e3, e4]] at ih2 ⊢
              exact ih2
        · simp only [decide_eq_true_eq] at e2
          rw [if_neg e2]
          exact no2 (.inl e2)
def shapeI (f : List Int) : Bool := decide ((rowsE f).map List.length = some 1) && decide (f.length ≤ 24)
theorem rowsOf_impl (f : List Int) (hn : f.length ≤ 9223372036854775807) : Ev (fun k => impl_rowsOf.f k f) ((if 1 ≤ f.length ∧ f.length ≤ 24 then (rowsAns (rowsE f)).1 else 0), shapeI f) := by
  unfold impl_rowsOf.f
  refine ev_bind0 (inRange_eq _ _ _) (ev_ite (fun e => ?_) (fun e => ev_eq (Ev.now _) ?_))
  · simp only [decide_eq_true_eq] at e
    rw [if_pos (by omega)]
    refine ev_eq (rowsOf_l0 f (by omega) f 0 [] rfl (by simp) (by intro hf; subst hf; simp at e) (fun _ => rfl)) ?_
    show rowsAns (rowsE f) = _
    refine Prod.ext rfl ?_
    unfold shapeI rowsAns
    cases hE : rowsE f with
    | none => simp
    | some st => simp; omega
  · simp only [decide_eq_true_eq] at e
    rw [if_neg (by omega)]
    refine Prod.ext rfl ?_
    unfold shapeI
    by_cases h0 : f = []
    · subst h0; simp [rowsE, evalS]
    · have : 1 ≤ f.length := List.length_pos_iff.2 h0
      simp [show ¬ f.length ≤ 24 by omega]
theorem rowsAns_bv (o : Option (List (BitVec 64))) : ∃ bv : BitVec 64, (rowsAns o).1 = (bv.toNat : Int) := by
  cases o with
  | none => exact ⟨0#64, rfl⟩
  | some st => exact ⟨_, rfl⟩
theorem shapeI_eq (f : List Int) : shapeI f = isFormula f := by
  unfold shapeI isFormula rowsE
  rw [evalS_shape]
  rfl
theorem letterBV_bit2 (s : Int) (h0 : 0 ≤ s) (h5 : s ≤ 5) (m : Nat) (hm : m < 64) : (letterBV s).getLsbD m = m.testBit s.toNat := by
  have := letterBV_bit ⟨s.toNat, by omega⟩ ⟨m, hm⟩
  rw [show ((s.toNat : Nat) : Int) = s by omega] at this
  exact this
/-- Bit m of the rows of a formula is its value in row m. -/
theorem rowsBV_bit (f : List Int) (hf : isFormula f = true) (m : Nat) (hm : m < 64) : (rowsBV f).getLsbD m = valB (fun k => m.testBit k) f := by
  have hmap := evalS_map (lit := letterBV) (no := fun x => ~~~x) (op := opV) (lit2 := fun s => m.testBit s.toNat) (no2 := fun x => !x) (op2 := opB) (fun x : BitVec 64 => x.getLsbD m)
    (fun s h0 h5 => letterBV_bit2 s h0 h5 m hm) (fun x => by simp [hm]) (fun s a b h1 h2 => by
      unfold opV opB
      split
      · simp
      · split
        · simp
        · simp [hm]) f []
  simp only [isFormula, Bool.and_eq_true, decide_eq_true_eq] at hf
  have hs := evalS_shape letterBV (fun x => ~~~x) opV f []
  rw [show shape f ([] : List (BitVec 64)).length = some 1 from hf.1] at hs
  unfold rowsBV valB rowsE
  cases hE : evalS letterBV (fun x => ~~~x) opV f [] with
  | none => rw [hE] at hs; simp at hs
  | some st =>
    rw [hE] at hs hmap
    match st, hs with
    | [x], _ =>
      rw [show evalS (fun s => m.testBit s.toNat) (fun x => !x) opB f [] = some [x.getLsbD m] from hmap]
      rfl
theorem rowsOf_ev (f : List Int) (hn : f.length ≤ 9223372036854775807) : ∃ bv : BitVec 64, Ev (fun k => impl_rowsOf.f k f) ((bv.toNat : Int), isFormula f) ∧ (isFormula f = true → ∀ m, m < 64 → bv.getLsbD m = valB (fun k => m.testBit k) f) := by
  have h := rowsOf_impl f hn
  rw [shapeI_eq] at h
  by_cases hf : isFormula f = true
  · have hf2 := hf
    simp only [isFormula, Bool.and_eq_true, decide_eq_true_eq] at hf2
    have h1 : 1 ≤ f.length := by
      cases f with
      | nil => simp [shape] at hf2
      | cons a r => simp
    rw [if_pos ⟨h1, hf2.2⟩] at h
    refine ⟨rowsBV f, ev_eq h ?_, fun _ m hm => rowsBV_bit f hf m hm⟩
    unfold rowsAns rowsBV
    cases rowsE f <;> rfl
  · by_cases h1 : 1 ≤ f.length ∧ f.length ≤ 24
    · rw [if_pos h1] at h
      obtain ⟨bv, hb⟩ := rowsAns_bv (rowsE f)
      rw [hb] at h
      exact ⟨bv, h, fun h2 => absurd h2 hf⟩
    · rw [if_neg h1] at h
      exact ⟨0#64, h, fun h2 => absurd h2 hf⟩
theorem rowsOf_rows (f : List Int) (hn : f.length ≤ 9223372036854775807) : ∃ bv : BitVec 64, Ev (fun k => impl_rowsOf.f k f) ((bv.toNat : Int), isFormula f) ∧ (isFormula f = true → ∀ m, m < 64 → bv.getLsbD m = rowVal m f) := by
  obtain ⟨bv, h, hb⟩ := rowsOf_ev f hn
  refine ⟨bv, h, fun hf m hm => ?_⟩
  rw [hb hf m hm, rowVal, value, hf, Bool.true_and]
theorem rowVal_false (f : List Int) (m : Nat) (hf : isFormula f = false) : rowVal m f = false := by simp [rowVal, value, hf]
theorem bv_ext64 {a b : BitVec 64} (h : ∀ m, m < 64 → a.getLsbD m = b.getLsbD m) : a = b := BitVec.eq_of_getLsbD_eq h
def countRows (f : List Int) : Nat := (List.range 64).countP fun m => rowVal m f
theorem countRows_all (f : List Int) : countRows f = 64 ↔ ∀ m, m < 64 → rowVal m f = true := by
  unfold countRows
  have h := List.countP_eq_length (p := fun m => rowVal m f) (l := List.range 64)
  rw [List.length_range] at h
  rw [h]
  simp

theorem bits_andNot_bv (a b : BitVec 64) : Go.bits .andNot .u64 (a.toNat : Int) (b.toNat : Int) = ((a &&& ~~~b).toNat : Int) := by
  show IntKind.u64.wrap ((BitVec.ofInt 64 (a.toNat : Int) &&& ~~~BitVec.ofInt 64 (b.toNat : Int)).toNat : Int) = _
  rw [BitVec.ofInt_natCast, BitVec.ofInt_natCast, BitVec.ofNat_toNat, BitVec.ofNat_toNat, BitVec.setWidth_eq, BitVec.setWidth_eq]
  have := (a &&& ~~~b).isLt
  rw [wrap_u64_]
  omega
def followsB (xs : List (List Int)) (f : List Int) (m : Nat) : Bool := !(xs.all (rowVal m)) || rowVal m f
theorem bits_or_row : ∀ (r : Fin 64) (i : Fin 6), Go.bits .or .i64 ((r.val : Nat) : Int) (shl .i64 1 ((i.val : Nat) : Int)) = ((r.val ||| 2 ^ i.val : Nat) : Int) := by decide +kernel
theorem valB_congr (v w : Nat → Bool) (f : List Int) (h : ∀ k, k < 6 → v k = w k) : valB v f = valB w f := by
  have := evalS_map (lit := fun s => v s.toNat) (no := fun x => !x) (op := opB) (lit2 := fun s => w s.toNat) (no2 := fun x => !x) (op2 := opB) (fun x : Bool => x) (fun s h0 h5 => h s.toNat (by omega)) (fun _ => rfl) (fun _ _ _ _ _ => rfl) f []
  unfold valB
  rw [show ([] : List Bool).map (fun x => x) = [] from rfl] at this
  rw [this]
  cases evalS (fun s => v s.toNat) (fun x => !x) opB f [] <;> simp
theorem value_congr (v w : Nat → Bool) (f : List Int) (h : ∀ k, k < 6 → v k = w k) : value v f = value w f := by
  unfold value
  rw [valB_congr v w f h]
theorem bit_of_shift (bv : BitVec 64) (r : Nat) (hr : r < 64) : (Go.bits .and .u64 (shr .u64 (bv.toNat : Int) (r : Int)) 1 == 1) = bv.getLsbD r := by
  have h1 : shr .u64 (bv.toNat : Int) (r : Int) = ((bv >>> r).toNat : Int) := by
    unfold shr
    rw [Int.toNat_natCast, show min r IntKind.u64.bits = r from Nat.min_eq_left (by show r ≤ 64; omega), BitVec.toNat_ushiftRight, Nat.shiftRight_eq_div_pow]
    simp
  rw [h1, show (1 : Int) = ((1#64).toNat : Int) from rfl, bits_and_bv, Bool.eq_iff_iff, beq_iff_eq]
  have h2 : (bv >>> r) &&& 1#64 = if bv.getLsbD r then 1#64 else 0#64 := by
    refine bv_ext64 fun m hm => ?_
    rw [BitVec.getLsbD_and, BitVec.getLsbD_ushiftRight, BitVec.getLsbD_one]
    cases hb : bv.getLsbD r with
    | true =>
      rw [if_pos rfl, BitVec.getLsbD_one]
      by_cases h0 : m = 0
      · subst h0; simp [hb]
      · simp [h0]
    | false =>
      rw [if_neg (by simp), BitVec.getLsbD_zero]
      by_cases h0 : m = 0
      · subst h0; simp [hb]
      · simp [h0]
  rw [h2]
  cases bv.getLsbD r <;> simp
theorem value_impl_l0 (f : List Int) (ls : List Bool) (hf : f.length ≤ 1048576) : ∀ (d i r : Nat), i + d = min ls.length 6 → r < 2 ^ i → (∀ j, j < i → r.testBit j = ls.getD j false) → Ev (fun k => impl_Value.l0 k f ls (r : Int) ((min ls.length 6 : Nat) : Int) (i : Int)) (value (fun k => ls.getD k false) f) := by
  intro d
  induction d with
  | zero =>
    intro i r h hr hb
    refine Ev.step (fun k => by rw [impl_Value.l0]) ?_
    obtain ⟨bv, hbv, hb2⟩ := rowsOf_rows f (by omega)
    have hr64 : r < 64 := Nat.lt_of_lt_of_le hr (Nat.pow_le_pow_right (n := 2) (by decide) (show i ≤ 6 by omega))
    refine ev_neg (by omega) (Ev.bind hbv (ev_ite (fun e => ev_pos (by omega) (ev_eq (Ev.now _) ?_)) (fun e => ev_eq (Ev.now _) ?_)))
    · dsimp only at e ⊢
      rw [bit_of_shift bv r hr64, hb2 e r hr64, rowVal]
      refine value_congr _ _ _ fun k hk => ?_
      by_cases hki : k < i
      · exact hb k hki
      · rw [Nat.testBit_lt_two_pow (Nat.lt_of_lt_of_le hr (Nat.pow_le_pow_right (by decide) (by omega))), List.getD_eq_getElem?_getD, List.getElem?_eq_none (by omega)]
        rfl
    · dsimp only at e
      unfold value
      rw [show isFormula f = false by simpa using e, Bool.false_and]
  | succ d ih =>
    intro i r h hr hb
    have hi6 : i < 6 := by omega
    have hr64 : r < 64 := Nat.lt_of_lt_of_le hr (Nat.pow_le_pow_right (n := 2) (by decide) (show i ≤ 6 by omega))
    refine Ev.step (fun k => by rw [impl_Value.l0]) ?_
    refine ev_pos (by omega) (ev_pos (by omega) (ev_pos (by omega) ?_))
    rw [wrap_id (by omega) (by omega), bits_or_row ⟨r, hr64⟩ ⟨i, hi6⟩]
    have hrd : rdOf false ls (i : Int) = ls.getD i false := by unfold rdOf; rw [Int.toNat_natCast]
    rw [hrd]
    have hpow : (2 : Nat) ^ (i + 1) = 2 * 2 ^ i := by rw [Nat.pow_succ, Nat.mul_comm]
    refine ev_ite (fun e => ?_) (fun e => ?_)
    · refine ih (i + 1) (r ||| 2 ^ i) (by omega) (Nat.or_lt_two_pow (by omega) (Nat.pow_lt_pow_right (by decide) (by omega))) fun j hj => ?_
      rw [Nat.testBit_or, Nat.testBit_two_pow]
      by_cases hji : j = i
      · subst hji; rw [e]; simp
      · rw [hb j (by omega)]; simp; omega
    · refine ih (i + 1) r (by omega) (by omega) fun j hj => ?_
      by_cases hji : j = i
      · subst hji
        rw [Nat.testBit_lt_two_pow hr]
        simpa using e
      · exact hb j (by omega)
theorem value_impl (f : List Int) (ls : List Bool) (hf : f.length ≤ 1048576) : Ev (fun k => impl_Value.f k f ls) (value (fun k => ls.getD k false) f) := by
  unfold impl_Value.f
  have : mn (ls.length : Int) 6 = ((min ls.length 6 : Nat) : Int) := by unfold mn; split <;> omega
  rw [this]
  exact value_impl_l0 f ls hf (min ls.length 6) 0 0 (by omega) (by decide) (by intro j hj; omega)

/-- How many numbers lie in rows. -/
def lenAll : List (List Int) → Nat
  | [] => 0
  | y :: ys => y.length + lenAll ys
theorem concat_l1 (xs : List (List Int)) (hn : xs.length ≤ 1048576) : ∀ (zs : List (List Int)) (i : Nat) (acc : List Int), xs.drop i = zs → acc.length + lenAll zs < 17592186044416 → Ev (fun k => slices_Concat_int_int.l1 k acc xs (xs.length : Int) (i : Int)) (acc ++ zs.flatten) := by
  intro zs
  induction zs with
  | nil =>
    intro i acc h hl
    have := at_end h
    refine Ev.step (fun k => by rw [slices_Concat_int_int.l1]) ?_
    exact ev_neg (by omega) (ev_eq (Ev.now _) (by simp))
  | cons z zs ih =>
    intro i acc h hl
    obtain ⟨hlt, hz, h2, _⟩ := at_drop h
    have hr : rd_L3 xs (i : Int) = z := getD_at hz
    simp only [lenAll] at hl
    refine Ev.step (fun k => by rw [slices_Concat_int_int.l1]) ?_
    refine ev_pos (by omega) (ev_pos (by omega) (ev_pos (by omega) ?_))
    rw [hr, wrap_id (x := (i : Int) + 1) (by omega) (by omega)]
    refine ev_pos (by omega) ?_
    refine ev_eq (ih (i + 1) (acc ++ z) h2 (by rw [List.length_append]; omega)) (by simp)
theorem concat_l0 (xs : List (List Int)) (hn : xs.length ≤ 1048576) (hp : 0 < lenAll xs) (hm : lenAll xs < 17592186044416) : ∀ (zs : List (List Int)) (i : Nat) (s : Nat), xs.drop i = zs → s + lenAll zs = lenAll xs → Ev (fun k => slices_Concat_int_int.l0 k xs (s : Int) xs (xs.length : Int) (i : Int)) xs.flatten := by
  intro zs
  induction zs with
  | nil =>
    intro i s h hs
    have := at_end h
    simp only [lenAll] at hs
    refine Ev.step (fun k => by rw [slices_Concat_int_int.l0]) ?_
    refine ev_neg (by omega) (ev_bind0 (a := ([] : List Int)) ?_ ?_)
    · unfold slices_Grow_int_int.f
      rw [if_pos (show ([] : List Int).length = 0 from rfl), if_pos (by omega), if_pos (by omega)]
    · simpa using concat_l1 xs hn xs 0 [] rfl (by simp only [List.length_nil]; omega)
  | cons z zs ih =>
    intro i s h hs
    obtain ⟨hlt, hz, h2, _⟩ := at_drop h
    have hr : rd_L3 xs (i : Int) = z := getD_at hz
    simp only [lenAll] at hs
    refine Ev.step (fun k => by rw [slices_Concat_int_int.l0]) ?_
    refine ev_pos (by omega) (ev_pos (by omega) (ev_pos (by omega) ?_))
    rw [hr, wrap_id (x := (i : Int) + 1) (by omega) (by omega), wrap_id (x := (s : Int) + (z.length : Int)) (by omega) (by omega)]
    refine ev_neg (by omega) ?_
    have := ih (i + 1) (s + z.length) h2 (by omega)
    rw [show ((s + z.length : Nat) : Int) = (s : Int) + (z.length : Int) by omega] at this
    exact this
theorem concat_ev (xs : List (List Int)) (hn : xs.length ≤ 1048576) (hp : 0 < lenAll xs) (hm : lenAll xs < 17592186044416) : Ev (fun k => slices_Concat_int_int.f k xs) xs.flatten := by
  unfold slices_Concat_int_int.f
  exact concat_l0 xs hn hp hm xs 0 0 rfl (by omega)
theorem shape_app : ∀ (f g : List Int) (n : Nat), shape (f ++ g) n = (shape f n).bind (shape g) := by
  intro f
  induction f with
  | nil => intro g n; rfl
  | cons s r ih =>
    intro g n
    rw [List.cons_append]
    unfold shape
    split
    · exact ih g _
    · split
      · split
        · exact ih g _
        · rfl
      · split
        · split
          · exact ih g _
          · rfl
        · rfl
theorem isFormula_not {f : List Int} (h : isFormula (f ++ [-1]) = true) : isFormula f = true := by
  unfold isFormula at h ⊢
  rw [Bool.and_eq_true, decide_eq_true_eq, decide_eq_true_eq, shape_app] at h
  obtain ⟨h1, h2⟩ := h
  rw [List.length_append, List.length_singleton] at h2
  rw [Bool.and_eq_true, decide_eq_true_eq, decide_eq_true_eq]
  refine ⟨?_, by omega⟩
  cases hs : shape f 0 with
  | none => rw [hs] at h1; exact absurd h1 (by simp)
  | some n =>
    rw [hs, Option.bind_some] at h1
    simp only [shape] at h1
    rw [if_neg (by omega), if_pos trivial] at h1
    split at h1
    · exact h1
    · exact absurd h1 (by simp)
def notOf (f : List Int) : List Int := if isFormula (f ++ [-1]) then f ++ [-1] else []
def joinOf (f g : List Int) (o : Int) : List Int := if isFormula f = true ∧ isFormula g = true ∧ (-4 ≤ o ∧ o ≤ -2) ∧ isFormula (f ++ g ++ [o]) = true then f ++ g ++ [o] else []
theorem isFormulaI_ev (f : List Int) (hn : f.length ≤ 9223372036854775807) : Ev (fun k => impl_IsFormula.f k f) (isFormula f) := by
  obtain ⟨bv, hr, _⟩ := rowsOf_ev f hn
  unfold impl_IsFormula.f
  exact Ev.bind hr (Ev.now _)
theorem notOf_impl (f : List Int) (hn : f.length ≤ 1048576) : Ev (fun k => impl_NotOf.f k f) (notOf f) := by
  have hc := concat_ev [f, [-1]] (by simp) (by simp only [lenAll, List.length_cons, List.length_nil]; omega) (by simp only [lenAll, List.length_cons, List.length_nil]; omega)
  rw [show ([f, [-1]] : List (List Int)).flatten = f ++ [-1] by simp] at hc
  unfold impl_NotOf.f notOf
  refine Ev.bind hc (Ev.bind (isFormulaI_ev f (by omega)) (ev_ite (fun e => ?_) (fun e => ev_eq (Ev.now _) ?_)))
  · refine Ev.bind (isFormulaI_ev (f ++ [-1]) (by first | (simp; done) | (simp; omega))) (ev_ite (fun e2 => ev_eq (Ev.now _) (by rw [if_pos e2])) (fun e2 => ev_eq (Ev.now _) (by rw [if_neg e2])))
  · rw [if_neg (fun h => e (isFormula_not h))]
theorem join_impl (f g : List Int) (o : Int) (hf : f.length ≤ 1048576) (hg : g.length ≤ 1048576) : Ev (fun k => impl_Join.f k f g o) (joinOf f g o) := by
  have hc := concat_ev [f, g, [o]] (by simp) (by simp only [lenAll, List.length_cons, List.length_nil]; omega) (by simp only [lenAll, List.length_cons, List.length_nil]; omega)
  rw [show ([f, g, [o]] : List (List Int)).flatten = f ++ g ++ [o] by simp] at hc
  unfold impl_Join.f joinOf
  refine Ev.bind hc (Ev.bind (isFormulaI_ev f (by omega)) (ev_ite (fun e1 => ?_) (fun e => ev_eq (Ev.now _) (by rw [if_neg (fun h => e h.1)]))))
  refine Ev.bind (isFormulaI_ev g (by omega)) (ev_ite (fun e2 => ?_) (fun e => ev_eq (Ev.now _) (by rw [if_neg (fun h => e h.2.1)])))
  refine ev_bind0 (inRange_eq _ _ _) (ev_ite (fun e3 => ?_) (fun e => ev_eq (Ev.now _) (by rw [if_neg (fun h => e (decide_eq_true h.2.2.1))])))
  refine Ev.bind (isFormulaI_ev (f ++ g ++ [o]) (by first | (simp; done) | (simp; omega))) (ev_ite (fun e4 => ev_eq (Ev.now _) (by rw [if_pos ⟨e1, e2, of_decide_eq_true e3, e4⟩])) (fun e => ev_eq (Ev.now _) (by rw [if_neg (fun h => e h.2.2.2)])))
theorem notOf_length (f : List Int) (hn : f.length ≤ 1048576) : (notOf f).length ≤ 1048577 := by
  unfold notOf
  split
  · simp; omega
  · simp
theorem joinOf_length (f g : List Int) (o : Int) (hf : f.length ≤ 1048576) (hg : g.length ≤ 1048576) : (joinOf f g o).length ≤ 2097153 := by
  unfold joinOf
  split
  · simp; omega
  · simp
/-- A number put into an ascending list. -/
def putL : List Int → Int → List Int
  | [], n => [n]
  | x :: xs, n => if x < n then x :: putL xs n else if x = n then x :: xs else n :: x :: xs
theorem putL_length : ∀ (l : List Int) (n : Int), (putL l n).length ≤ l.length + 1
  | [], _ => by simp [putL]
  | x :: xs, n => by
    have := putL_length xs n
    unfold putL
    split
    · simp only [List.length_cons]; omega
    · split <;> simp
theorem putL_mem : ∀ (l : List Int) (n y : Int), y ∈ putL l n ↔ y = n ∨ y ∈ l
  | [], n, y => by simp [putL]
  | x :: xs, n, y => by
    have := putL_mem xs n y
    unfold putL
    split
    · simp only [List.mem_cons, this]
      constructor
      · rintro (h | h | h) <;> simp [h]
      · rintro (h | h | h) <;> simp [h]
    · split
      · rename_i h
        subst h
        simp
      · simp only [List.mem_cons]
theorem putL_asc : ∀ (l : List Int) (n : Int), l.Pairwise (· < ·) → (putL l n).Pairwise (· < ·)
  | [], n, _ => by simp [putL]
  | x :: xs, n, h => by
    rw [List.pairwise_cons] at h
    unfold putL
    split
    · rename_i hx
      refine List.pairwise_cons.2 ⟨fun y hy => ?_, putL_asc xs n h.2⟩
      rcases (putL_mem xs n y).1 hy with rfl | hy
      · exact hx
      · exact h.1 y hy
    · split
      · exact List.pairwise_cons.2 h
      · refine List.pairwise_cons.2 ⟨fun y hy => ?_, List.pairwise_cons.2 h⟩
        rcases List.mem_cons.1 hy with rfl | hy
        · omega
        · have := h.1 y hy
          omega
theorem asc_ext : ∀ (l m : List Int), l.Pairwise (· < ·) → m.Pairwise (· < ·) → (∀ y, y ∈ l ↔ y ∈ m) → l = m
  | [], [], _, _, _ => rfl
  | [], b :: m, _, _, h => by have := (h b).2 (by simp); simp at this
  | a :: l, [], _, _, h => by have := (h a).1 (by simp); simp at this
  | a :: l, b :: m, hl, hm, h => by
    rw [List.pairwise_cons] at hl hm
    have hab : a = b := by
      rcases List.mem_cons.1 ((h a).1 (by simp)) with e | h1
      · exact e
      · rcases List.mem_cons.1 ((h b).2 (by simp)) with e | h2
        · exact e.symm
        · have h3 := hm.1 a h1
          have h4 := hl.1 b h2
          omega
    subst hab
    rw [asc_ext l m hl.2 hm.2 (fun y => ?_)]
    constructor
    · intro hy
      rcases List.mem_cons.1 ((h y).1 (List.mem_cons_of_mem _ hy)) with rfl | h1
      · have := hl.1 y hy
        omega
      · exact h1
    · intro hy
      rcases List.mem_cons.1 ((h y).2 (List.mem_cons_of_mem _ hy)) with rfl | h1
      · have := hm.1 y hy
        omega
      · exact h1
theorem compact_mem (zs : List Int) (y : Int) : y ∈ Go.Lib.compact zs ↔ y ∈ zs := by
  unfold Go.Lib.compact Go.Lib.compactUpTo
  constructor
  · intro h
    obtain ⟨j, hj, rfl⟩ := List.mem_map.1 h
    have hj2 := List.mem_range.1 (List.mem_filter.1 hj).1
    simp [hj2]
  · intro h
    obtain ⟨j, hj, he⟩ := List.getElem_of_mem h
    have key : ∀ j, (hj : j < zs.length) → zs[j] = y → y ∈ ((List.range zs.length).filter (Go.Lib.keeps zs.toArray)).map (zs.toArray[·]!) := by
      intro j
      induction j with
      | zero =>
        intro hj he
        exact List.mem_map.2 ⟨0, List.mem_filter.2 ⟨List.mem_range.2 hj, by simp [Go.Lib.keeps]⟩, by simp [hj, he]⟩
      | succ j ih =>
        intro hj he
        by_cases hk : Go.Lib.keeps zs.toArray (j + 1) = true
        · exact List.mem_map.2 ⟨j + 1, List.mem_filter.2 ⟨List.mem_range.2 hj, hk⟩, by simp [hj, he]⟩
        · refine ih (by omega) ?_
          have : zs[j + 1] = zs[j] := by simpa [Go.Lib.keeps, hj, show j < zs.length by omega] using hk
          rw [← this, he]
    exact key j hj he
theorem compact_asc (zs : List Int) (h : zs.Pairwise (· ≤ ·)) : (Go.Lib.compact zs).Pairwise (· < ·) := by
  unfold Go.Lib.compact Go.Lib.compactUpTo
  rw [List.pairwise_map]
  refine List.Pairwise.imp_of_mem ?_ (List.Pairwise.filter _ List.pairwise_lt_range)
  intro i j hi hj hij
  have hj2 := List.mem_range.1 (List.mem_filter.1 hj).1
  have hk := (List.mem_filter.1 hj).2
  have hk2 : ¬ zs[j] = zs[j - 1] := by
    have h1 : j = 0 ∨ ¬ zs[j] = zs[j - 1] := by simpa [Go.Lib.keeps, hj2, show j - 1 < zs.length by omega] using hk
    rcases h1 with h1 | h1
    · omega
    · exact h1
  have hp := List.pairwise_iff_getElem.1 h
  have h1 : zs[j - 1] ≤ zs[j] := hp (j - 1) j (by omega) hj2 (by omega)
  have h2 : zs[i] ≤ zs[j - 1] := by
    by_cases e : i = j - 1
    · subst e
      exact Int.le_refl _
    · exact hp i (j - 1) (by omega) (by omega) (by omega)
  simp only [List.getElem!_toArray, getElem!_pos zs i (by omega), getElem!_pos zs j hj2]
  omega
theorem sorted_asc (l : List Int) : (sorted_ l).Pairwise (· ≤ ·) := by
  have h := List.pairwise_mergeSort (le := fun x y : Int => decide (x ≤ y)) (by intro a b c h1 h2; simp at *; omega) (by intro a b; first | (simp; done) | (simp; omega)) l
  exact h.imp (fun h => by simpa using h)
theorem sorted_mem (l : List Int) (y : Int) : y ∈ sorted_ l ↔ y ∈ l := by
  unfold sorted_
  exact List.mem_mergeSort
theorem fold_put_mem : ∀ (zs out : List Int) (y : Int), y ∈ zs.foldl putL out ↔ y ∈ zs ∨ y ∈ out
  | [], out, y => by simp
  | z :: zs, out, y => by
    rw [List.foldl_cons, fold_put_mem zs, putL_mem, List.mem_cons]
    constructor
    · rintro (h | h | h) <;> simp [h]
    · rintro ((h | h) | h) <;> simp [h]
theorem fold_put_asc : ∀ (zs out : List Int), out.Pairwise (· < ·) → (zs.foldl putL out).Pairwise (· < ·)
  | [], out, h => h
  | z :: zs, out, h => fold_put_asc zs _ (putL_asc out z h)
theorem fold_put_length : ∀ (zs out : List Int), (zs.foldl putL out).length ≤ zs.length + out.length
  | [], out => by simp
  | z :: zs, out => by
    have h1 := fold_put_length zs (putL out z)
    have h2 := putL_length out z
    rw [List.foldl_cons, List.length_cons]
    omega
/-- Sorted and told once each, or put in one by one: the same list. -/
theorem compact_sorted (zs : List Int) : Go.Lib.compact (sorted_ zs) = zs.foldl putL [] :=
  asc_ext _ _ (compact_asc _ (sorted_asc zs)) (fold_put_asc zs [] List.Pairwise.nil) (fun y => by rw [compact_mem, sorted_mem, fold_put_mem]; simp)
def lettersOf (f : List Int) : List Int := if isFormula f = true then (f.filter (fun s => decide (0 ≤ s))).foldl putL [] else []
theorem lettersOf_length (f : List Int) : (lettersOf f).length ≤ f.length := by
  unfold lettersOf
  split
  · have h1 := fold_put_length (f.filter (fun s => decide (0 ≤ s))) []
    have h2 := List.length_filter_le (fun s => decide (0 ≤ s)) f
    simp only [List.length_nil] at h1
    omega
  · simp
theorem lettersIn_impl_l0 (f : List Int) (hf : f.length ≤ 1048600) : ∀ (zs : List Int) (i : Nat) (acc : List Int), f.drop i = zs → acc.length ≤ i → i ≤ f.length → Ev (fun k => impl_LettersIn.l0 k acc f (f.length : Int) (i : Int)) (Go.Lib.compact (sorted_ (acc ++ zs.filter (fun s => decide (0 ≤ s))))) := by
  intro zs
  induction zs with
  | nil =>
    intro i acc h hl hi
    have := at_end h
    refine Ev.step (fun k => by rw [impl_LettersIn.l0]) ?_
    refine ev_neg (by omega) ?_
    refine ev_bind0 (a := sorted_ acc) (by unfold slices_Sort_int_int.f; rw [if_pos (by omega)]) (ev_bind0 (a := Go.Lib.compact (sorted_ acc)) rfl (ev_eq (Ev.now _) ?_))
    simp
  | cons z zs ih =>
    intro i acc h hl hi
    obtain ⟨hlt, hz, h', _⟩ := at_drop h
    refine Ev.step (fun k => by rw [impl_LettersIn.l0]) ?_
    refine ev_pos (by omega) (ev_pos (by omega) (ev_pos (by omega) ?_))
    rw [rd_get hz, wrap_id (by omega) (by omega)]
    refine ev_ite (fun e => ev_pos (by omega) ?_) (fun e => ?_)
    · refine ev_eq (ih (i + 1) _ h' (by first | (simp; done) | (simp; omega)) (by omega)) ?_
      rw [List.filter_cons_of_pos (by simpa using e), List.append_assoc, List.singleton_append]
    · refine ev_eq (ih (i + 1) _ h' (by omega) (by omega)) ?_
      rw [List.filter_cons_of_neg (by simpa using e)]
theorem lettersIn_impl (f : List Int) (hf : f.length ≤ 1048600) : Ev (fun k => impl_LettersIn.f k f) (lettersOf f) := by
  unfold impl_LettersIn.f lettersOf
  obtain ⟨bv, hr, _⟩ := rowsOf_ev f (by omega)
  have hi : Ev (fun k => impl_IsFormula.f k f) (isFormula f) := by
    unfold impl_IsFormula.f
    exact Ev.bind hr (Ev.now _)
  refine ev_bind0 rfl (Ev.bind hi (ev_ite (fun e => ?_) (fun e => ?_)))
  · rw [if_pos e]
    refine ev_eq (lettersIn_impl_l0 f hf f 0 [] rfl (by simp) (by omega)) ?_
    rw [List.nil_append, compact_sorted]
  · rw [if_neg e]
    exact Ev.now _

theorem rdOf_snoc2 {α : Type} (d x : α) (l : List α) (i : Int) (h : i = l.length) : rdOf d (l ++ [x]) i = x := by
  subst h
  unfold rdOf
  simp
theorem set_snoc2 {α : Type} (x y : α) (l : List α) (i : Int) (h : i = l.length) : (l ++ [x]).set i.toNat y = l ++ [y] := by
  subst h
  rw [Int.toNat_natCast, List.set_append_right _ _ (Nat.le_refl _)]
  simp
def letS (s : Int) : ByteArray := (⟨#[97, 98, 99, 100, 101, 102]⟩ : ByteArray).extract s.toNat (s + 1).toNat
def noS (x : ByteArray) : ByteArray := (⟨#[33]⟩ : ByteArray) ++ x
def signS (s : Int) : ByteArray := (⟨#[38, 124, 62]⟩ : ByteArray).extract (-2 - s).toNat (-2 - s + 1).toNat
def opS (s : Int) (a b : ByteArray) : ByteArray := ((((⟨#[40]⟩ : ByteArray) ++ a) ++ signS s) ++ b) ++ (⟨#[41]⟩ : ByteArray)
theorem signS_eq (s : Int) (h1 : -4 ≤ s) (h2 : s ≤ -2) : rdOf ByteArray.empty [(⟨#[38]⟩ : ByteArray), (⟨#[124]⟩ : ByteArray), (⟨#[62]⟩ : ByteArray)] (-s - 2) = signS s := by
  have : s = -4 ∨ s = -3 ∨ s = -2 := by omega
  rcases this with rfl | rfl | rfl <;> decide +kernel
theorem signS_size (s : Int) (h1 : -4 ≤ s) (h2 : s ≤ -2) : (signS s).size = 1 := by
  have : s = -4 ∨ s = -3 ∨ s = -2 := by omega
  rcases this with rfl | rfl | rfl <;> decide +kernel
theorem letS_size (s : Int) (h1 : 0 ≤ s) (h2 : s ≤ 5) : (letS s).size = 1 := by
  have : s = 0 ∨ s = 1 ∨ s = 2 ∨ s = 3 ∨ s = 4 ∨ s = 5 := by omega
  rcases this with rfl | rfl | rfl | rfl | rfl | rfl <;> decide +kernel
theorem size40 : (⟨#[40]⟩ : ByteArray).size = 1 := rfl
theorem size41 : (⟨#[41]⟩ : ByteArray).size = 1 := rfl
theorem size33 : (⟨#[33]⟩ : ByteArray).size = 1 := rfl
/-- The sizes on the pile, in sum. -/
def sizes : List ByteArray → Nat
  | [] => 0
  | x :: r => x.size + sizes r
theorem noS_size (x : ByteArray) : (noS x).size = 1 + x.size := by
  unfold noS
  rw [ByteArray.size_append, size33]
theorem opS_size (s : Int) (a b : ByteArray) (h1 : -4 ≤ s) (h2 : s ≤ -2) : (opS s a b).size = 3 + a.size + b.size := by
  unfold opS
  rw [ByteArray.size_append, ByteArray.size_append, ByteArray.size_append, ByteArray.size_append, size40, size41, signS_size s h1 h2]
  omega
def textOf (o : Option (List ByteArray)) : ByteArray := match o with | some [x] => x | _ => ByteArray.empty
theorem text_impl_l0 (xs : List Int) (hn : xs.length ≤ 24) : ∀ (zs : List Int) (i : Nat) (st : List ByteArray), xs.drop i = zs → st.length ≤ i → sizes st ≤ 3 * i → shape zs st.length = some 1 →
    Ev (fun k => impl_FormulaText.l0 k st.reverse xs xs.length (i : Int)) (textOf (evalS letS noS opS zs st)) := by
  intro zs
  induction zs with
  | nil =>
    intro i st h hst _ hsh
    have := at_end h
    have hl1 : st.length = 1 := by simpa [shape] using hsh
    match st, hl1 with
    | [x], _ =>
      refine Ev.step (fun k => by rw [impl_FormulaText.l0]) ?_
      exact ev_neg (by omega) (ev_pos (by simp) (ev_eq (Ev.now _) rfl))
  | cons z zs ih =>
    intro i st h hst hsz hsh
    obtain ⟨hi, hz, h2, _⟩ := at_drop h
    have hrl : st.reverse.length = st.length := List.length_reverse
    refine Ev.step (fun k => by rw [impl_FormulaText.l0]) ?_
    refine ev_pos (by omega) (ev_pos (by omega) (ev_pos (by omega) ?_))
    rw [rd_get hz, wrap_id (x := (i : Int) + 1) (by omega) (by omega)]
    unfold shape at hsh
    unfold evalS
    by_cases e0 : 0 ≤ z ∧ z ≤ 5
    · rw [if_pos e0] at hsh
      rw [if_pos e0]
      have ih2 := ih (i + 1) (letS z :: st) h2 (by first | (simp; done) | (simp; omega)) (by unfold sizes; rw [letS_size z e0.1 e0.2]; omega) hsh
      rw [List.reverse_cons] at ih2
      rw [wrap_id (x := z + 1) (by omega) (by omega)]
      refine ev_pos (by omega) (ev_pos (by omega) (ev_pos (by omega) (ev_pos (by omega) (ev_pos (by omega) ?_))))
      exact ih2
    · rw [if_neg e0] at hsh
      rw [if_neg e0]
      by_cases e1 : z = -1
      · rw [if_pos e1] at hsh
        rw [if_pos e1]
        refine ev_neg (by omega) (ev_pos e1 ?_)
        cases st with
        | nil => simp at hsh
        | cons x st2 =>
          rw [if_pos (by simp)] at hsh
          unfold sizes at hsz
          have ih2 := ih (i + 1) (noS x :: st2) h2 (by simp only [List.length_cons] at hst ⊢; omega) (by unfold sizes; rw [noS_size]; omega) (by simpa using hsh)
          rw [List.reverse_cons] at ih2 ⊢
          simp only [List.length_cons] at hst
          have hlen : ((st2.reverse ++ [x]).length : Int) = st2.length + 1 := by simp
          rw [hlen, wrap_id (x := (st2.length : Int) + 1 - 1) (by omega) (by omega)]
          rw [rdOf_snoc2 ByteArray.empty x st2.reverse _ (by simp), set_snoc2 x _ st2.reverse _ (by simp)]
          refine ev_pos (by omega) (ev_pos (by omega) (ev_pos (by omega) ?_))
          exact ih2
      · rw [if_neg e1] at hsh
        rw [if_neg e1]
        by_cases e2 : -4 ≤ z ∧ z ≤ -2
        · rw [if_pos e2] at hsh
          rw [if_pos e2]
          refine ev_neg (by omega) (ev_neg e1 ?_)
          match st with
          | [] => simp at hsh
          | [x] => simp at hsh
          | b :: a :: st2 =>
            rw [if_pos (by simp)] at hsh
            unfold sizes at hsz
            unfold sizes at hsz
            simp only [List.length_cons] at hst
            have hos := opS_size z a b e2.1 e2.2
            have ih2 := ih (i + 1) (opS z a b :: st2) h2 (by first | (simp; done) | (simp; omega)) (by unfold sizes; rw [hos]; omega) (by simpa using hsh)
            rw [List.reverse_cons] at ih2
            dsimp only
            rw [List.reverse_cons, List.reverse_cons]
            have hlen : ((st2.reverse ++ [a] ++ [b]).length : Int) = st2.length + 2 := (by first | (simp; done) | (simp; omega))
            have ha : rdOf ByteArray.empty (st2.reverse ++ [a] ++ [b]) ((st2.length : Int) + 2 - 2) = a := by
              rw [show (st2.length : Int) + 2 - 2 = ((st2.length : Nat) : Int) by omega]
              unfold rdOf
              simp
            have hb : rdOf ByteArray.empty (st2.reverse ++ [a] ++ [b]) ((st2.length : Int) + 2 - 1) = b := rdOf_snoc2 ByteArray.empty b (st2.reverse ++ [a]) _ (by first | (simp; done) | (simp; omega))
            have hset : ∀ y, ((st2.reverse ++ [a] ++ [b]).set ((st2.length : Int) + 2 - 2).toNat y).take ((st2.length : Int) + 2 - 1).toNat = st2.reverse ++ [y] := by
              intro y
              rw [show ((st2.length : Int) + 2 - 2).toNat = st2.reverse.length by simp, show ((st2.length : Int) + 2 - 1).toNat = st2.reverse.length + 1 by simp; omega, List.append_assoc, List.set_append_right _ _ (Nat.le_refl _)]
              rw [show st2.reverse ++ ([a] ++ [b]).set (st2.reverse.length - st2.reverse.length) y = (st2.reverse ++ [y]) ++ [b] by simp, List.take_append_of_le_length (by simp), List.take_of_length_le (by simp)]
            have hs1 := signS_size z e2.1 e2.2
            have hs2 : (⟨#[38, 124, 62]⟩ : ByteArray).extract (-2 - z).toNat (-2 - z + 1).toNat = signS z := rfl
            rw [hlen, wrap_id (x := (st2.length : Int) + 2 - 2) (by omega) (by omega), wrap_id (x := (st2.length : Int) + 2 - 1) (by omega) (by omega), wrap_id (x := -2 - z) (by omega) (by omega), wrap_id (x := -2 - z + 1) (by omega) (by omega), ha, hb, hs2, hset]
            refine ev_pos (by omega) (ev_pos (by omega) (ev_pos (by omega) (ev_pos (by omega) (ev_pos (by omega) (ev_pos (by omega) (ev_pos ?_ (ev_pos (by omega) (ev_pos (by omega) (ev_pos ?_ (ev_pos ?_ (ev_pos (by omega) ?_)))))))))))
            · rw [ByteArray.size_append, size40, hs1]; omega
            · rw [ByteArray.size_append, ByteArray.size_append, size40, hs1]; omega
            · rw [ByteArray.size_append, ByteArray.size_append, ByteArray.size_append, size40, hs1]; omega
            · exact ih2
        · rw [if_neg e2] at hsh
          simp at hsh
theorem toList_loop_len (b : ByteArray) : ∀ (d i : Nat) (r : List UInt8), i + d = b.size → (ByteArray.toList.loop b i r).length = r.length + d := by
  intro d
  induction d with
  | zero =>
    intro i r h
    unfold ByteArray.toList.loop
    rw [if_neg (by omega)]
    simp
  | succ d ih =>
    intro i r h
    unfold ByteArray.toList.loop
    rw [if_pos (by omega), ih (i + 1) _ (by omega)]
    simp
    omega
theorem toList_nil {b : ByteArray} (h : b.toList = []) : b = ByteArray.empty := by
  have := toList_loop_len b b.size 0 [] (by omega)
  rw [show ByteArray.toList.loop b 0 [] = b.toList from rfl, h] at this
  simp at this
  exact ByteArray.size_eq_zero_iff.1 this.symm
theorem toList_empty : ByteArray.empty.toList = [] := List.eq_nil_of_length_eq_zero (toList_loop_len ByteArray.empty 0 0 [] rfl)
theorem text_impl (f : List Int) (hn : f.length ≤ 1048576) : Ev (fun k => impl_FormulaText.f k f) (if isFormula f = true then textOf (evalS letS noS opS f []) else ByteArray.empty) := by
  unfold impl_FormulaText.f
  have hi := isFormulaI_ev f (by omega)
  by_cases hf : isFormula f = true
  · rw [if_pos hf]
    have e2 := hf
    simp only [isFormula, Bool.and_eq_true, decide_eq_true_eq] at e2
    exact Ev.bind hi (ev_pos hf (text_impl_l0 f e2.2 f 0 [] rfl (by simp) (by simp [sizes]) e2.1))
  · rw [if_neg hf]
    exact Ev.bind hi (ev_neg hf (Ev.now _))

theorem evalS_app {β : Type} (lit : Int → β) (no : β → β) (op : Int → β → β → β) : ∀ (f g : List Int) (st : List β), evalS lit no op (f ++ g) st = (evalS lit no op f st).bind (evalS lit no op g) := by
  intro f
  induction f with
  | nil => intro g st; rfl
  | cons s r ih =>
    intro g st
    rw [List.cons_append]
    unfold evalS
    split
    · exact ih g _
    · split
      · split
        · exact ih g _
        · rfl
      · split
        · split
          · exact ih g _
          · rfl
        · rfl
theorem evalS_tail {β : Type} (lit : Int → β) (no : β → β) (op : Int → β → β → β) (t : List β) : ∀ (f : List Int) (st r : List β), evalS lit no op f st = some r → evalS lit no op f (st ++ t) = some (r ++ t) := by
  intro f
  induction f with
  | nil => intro st r h; simp only [evalS, Option.some.injEq] at h ⊢; rw [h]
  | cons s f ih =>
    intro st r h
    unfold evalS at h ⊢
    split at h
    · rename_i h0
      rw [if_pos h0]
      exact ih (lit s :: st) r h
    · rename_i h0
      rw [if_neg h0]
      split at h
      · rename_i h1
        rw [if_pos h1]
        cases st with
        | nil => exact absurd h (by simp)
        | cons x st2 => exact ih (no x :: st2) r h
      · rename_i h1
        rw [if_neg h1]
        split at h
        · rename_i h2
          rw [if_pos h2]
          match st, h with
          | [], h => exact absurd h (by simp)
          | [x], h => exact absurd h (by simp)
          | b :: a :: st2, h => exact ih (op s a b :: st2) r h
        · exact absurd h (by simp)
theorem evalS_one {β : Type} (lit : Int → β) (no : β → β) (op : Int → β → β → β) (f : List Int) (hf : isFormula f = true) : ∃ x, evalS lit no op f [] = some [x] := by
  simp only [isFormula, Bool.and_eq_true, decide_eq_true_eq] at hf
  have hs := evalS_shape lit no op f []
  rw [show shape f ([] : List β).length = some 1 from hf.1] at hs
  cases hE : evalS lit no op f [] with
  | none => rw [hE] at hs; simp at hs
  | some st =>
    rw [hE] at hs
    match st, hs with
    | [x], _ => exact ⟨x, rfl⟩
theorem value_notOf (v : Nat → Bool) (f : List Int) (h : 0 < (notOf f).length) : value v (notOf f) = !(value v f) := by
  have e : isFormula (f ++ [-1]) = true := by
    by_cases e : isFormula (f ++ [-1]) = true
    · exact e
    · unfold notOf at h; rw [if_neg e] at h; simp at h
  have hn : notOf f = f ++ [-1] := by unfold notOf; rw [if_pos e]
  have hf := isFormula_not e
  obtain ⟨x, hx⟩ := evalS_one (fun s => v s.toNat) (fun x => !x) opB f hf
  have h2 : evalS (fun s => v s.toNat) (fun x => !x) opB (f ++ [-1]) [] = some [!x] := by
    rw [evalS_app, hx]; rfl
  rw [hn]
  simp only [value, valB, e, hf, hx, h2, Bool.true_and]
theorem value_joinOf (v : Nat → Bool) (f g : List Int) (o : Int) (h : 0 < (joinOf f g o).length) : value v (joinOf f g o) = opB o (value v f) (value v g) ∧ (-4 ≤ o ∧ o ≤ -2) := by
  have e : isFormula f = true ∧ isFormula g = true ∧ (-4 ≤ o ∧ o ≤ -2) ∧ isFormula (f ++ g ++ [o]) = true := by
    by_cases e : isFormula f = true ∧ isFormula g = true ∧ (-4 ≤ o ∧ o ≤ -2) ∧ isFormula (f ++ g ++ [o]) = true
    · exact e
    · unfold joinOf at h; rw [if_neg e] at h; simp at h
  have hj : joinOf f g o = f ++ g ++ [o] := by unfold joinOf; rw [if_pos e]
  obtain ⟨hf, hg, ho, hfg⟩ := e
  obtain ⟨x, hx⟩ := evalS_one (fun s => v s.toNat) (fun x => !x) opB f hf
  obtain ⟨y, hy⟩ := evalS_one (fun s => v s.toNat) (fun x => !x) opB g hg
  have h2 : evalS (fun s => v s.toNat) (fun x => !x) opB (f ++ g ++ [o]) [] = some [opB o x y] := by
    rw [evalS_app, evalS_app, hx, Option.bind_some, show ([x] : List Bool) = [] ++ [x] from rfl, evalS_tail _ _ _ [x] g [] [y] hy, Option.bind_some]
    unfold evalS
    rw [if_neg (by omega), if_neg (by omega), if_pos ho]
    rfl
  rw [hj]
  refine ⟨?_, ho⟩
  simp only [value, valB, hfg, hf, hg, hx, hy, h2, Bool.true_and]
/-- Letters that a formula has not do not matter. -/
theorem evalS_letters {β : Type} (lit lit2 : Int → β) (no : β → β) (op : Int → β → β → β) : ∀ (f : List Int) (st : List β), (∀ s ∈ f, 0 ≤ s → lit s = lit2 s) → evalS lit no op f st = evalS lit2 no op f st := by
  intro f
  induction f with
  | nil => intro st _; rfl
  | cons s f ih =>
    intro st h
    have hr : ∀ s ∈ f, 0 ≤ s → lit s = lit2 s := fun x hx => h x (List.mem_cons_of_mem _ hx)
    unfold evalS
    split
    · rename_i h0
      rw [h s List.mem_cons_self h0.1]
      exact ih _ hr
    · split
      · split
        · exact ih _ hr
        · rfl
      · split
        · split
          · exact ih _ hr
          · rfl
        · rfl
theorem lettersOf_mem (f : List Int) (hf : isFormula f = true) (y : Int) : y ∈ lettersOf f ↔ y ∈ f ∧ 0 ≤ y := by
  unfold lettersOf
  rw [if_pos hf, fold_put_mem, List.mem_filter]
  simp
theorem lettersOf_asc (f : List Int) : (lettersOf f).Pairwise (· < ·) := by
  unfold lettersOf
  split
  · exact fold_put_asc _ _ List.Pairwise.nil
  · exact List.Pairwise.nil
theorem value_letters (f : List Int) (ls : List Bool) (k : Nat) (y : Bool) (hf : isFormula f = true) (hk : (k : Int) ∉ lettersOf f) : value (fun j => (ls.set k y).getD j false) f = value (fun j => ls.getD j false) f := by
  unfold value valB
  rw [evalS_letters (fun s => (ls.set k y).getD s.toNat false) (fun s => ls.getD s.toNat false) (fun x => !x) opB f [] (fun s hs h0 => ?_)]
  have : s.toNat ≠ k := by
    rintro rfl
    exact hk ((lettersOf_mem f hf _).2 ⟨by rwa [Int.toNat_of_nonneg h0], by omega⟩)
  simp only [List.getD_eq_getElem?_getD]
  rw [List.getElem?_set_ne (by omega)]
theorem evalS_inv {β : Type} (lit : Int → β) (no : β → β) (op : Int → β → β → β) (p : β → Prop) (h0 : ∀ s, 0 ≤ s → s ≤ 5 → p (lit s)) (h1 : ∀ x, p x → p (no x)) (h2 : ∀ s a b, -4 ≤ s → s ≤ -2 → p a → p b → p (op s a b)) : ∀ (f : List Int) (st r : List β), (∀ x ∈ st, p x) → evalS lit no op f st = some r → ∀ x ∈ r, p x := by
  intro f
  induction f with
  | nil => intro st r hp h; simp only [evalS, Option.some.injEq] at h; rw [← h]; exact hp
  | cons s f ih =>
    intro st r hp h
    unfold evalS at h
    split at h
    · rename_i k0
      exact ih (lit s :: st) r (fun x hx => (List.mem_cons.1 hx).elim (fun e => e ▸ h0 s k0.1 k0.2) (hp x)) h
    · split at h
      · cases st with
        | nil => exact absurd h (by simp)
        | cons x st2 => exact ih (no x :: st2) r (fun z hz => (List.mem_cons.1 hz).elim (fun e => e ▸ h1 x (hp x List.mem_cons_self)) (fun e => hp z (List.mem_cons_of_mem _ e))) h
      · split at h
        · rename_i k2
          match st, hp, h with
          | [], _, h => exact absurd h (by simp)
          | [x], _, h => exact absurd h (by simp)
          | b :: a :: st2, hp, h => exact ih (op s a b :: st2) r (fun z hz => (List.mem_cons.1 hz).elim (fun e => e ▸ h2 s a b k2.1 k2.2 (hp a (by simp)) (hp b (by simp))) (fun e => hp z (by simp [e]))) h
        · exact absurd h (by simp)
theorem text_some (f : List Int) (hf : isFormula f = true) : textOf (evalS letS noS opS f []) ≠ ByteArray.empty := by
  obtain ⟨x, hx⟩ := evalS_one letS noS opS f hf
  have hp : 0 < x.size := evalS_inv letS noS opS (fun x => 0 < x.size) (fun s h0 h5 => by rw [letS_size s h0 h5]; omega) (fun x h => by rw [noS_size]; omega) (fun s a b h1 h2 ha hb => by rw [opS_size s a b h1 h2]; omega) f [] [x] (by simp) hx x (by simp)
  rw [hx]
  show x ≠ ByteArray.empty
  rintro rfl
  simp at hp

theorem containsL_l0 (xs : List Int) (x : Int) (hn : xs.length ≤ 9223372036854775807) : ∀ (zs : List Int) (i : Nat), xs.drop i = zs → Ev (fun k => laws_contains.l0 k xs x (i : Int)) (decide (x ∈ zs)) := by
  intro zs
  induction zs with
  | nil =>
    intro i h
    have := at_end h
    refine Ev.step (fun k => by rw [laws_contains.l0]) ?_
    exact ev_neg (by omega) (ev_eq (Ev.now _) (by simp))
  | cons z zs ih =>
    intro i h
    obtain ⟨hlt, hz, h2, _⟩ := at_drop h
    refine Ev.step (fun k => by rw [laws_contains.l0]) ?_
    rw [wrap_id (by omega) (by omega), rd_get hz]
    refine ev_pos (by omega) (ev_pos (by omega) (ev_ite (fun e => ev_eq (Ev.now _) (by simp [e])) (fun e => ev_eq (ih (i + 1) h2) ?_)))
    have : x ≠ z := fun h => e h.symm
    simp [this]
theorem containsL_ev (xs : List Int) (x : Int) (hn : xs.length ≤ 9223372036854775807) : Ev (fun k => laws_contains.f k xs x) (decide (x ∈ xs)) := by
  unfold laws_contains.f
  exact containsL_l0 xs x hn xs 0 rfl
theorem l10Draw_ok (b : List Int) (hb : b.length ≤ 1048576) : ∀ (d : Nat), d ≤ 3 → ∀ (i h : Int), Cur b i → ∃ f i2 h2, Ev (fun k => spec_l10Draw.f k b i h (d : Int)) (f, i2, h2) ∧ 1 ≤ f.length ∧ f.length < 2 ^ (d + 1) ∧ Cur b i2 := by
  have lit : ∀ (a : Int) (i h : Int), Cur b i → ∃ f i2 h2, Ev (fun k => spec_l10Draw.j0 k a true b i h) (f, i2, h2) ∧ f.length = 1 ∧ Cur b i2 := by
    intro a i h hc
    obtain ⟨r, i2, h2, e, _, _, _, hc2⟩ := l1Below_ok b i h 4 hc hb
    refine ⟨[r], i2, h2, ?_, rfl, hc2⟩
    refine Ev.step (fun k => by rw [spec_l10Draw.j0]) ?_
    exact ev_pos rfl (ev_bind0 e (Ev.now _))
  intro d
  induction d with
  | zero =>
    intro _ i h hc
    obtain ⟨f, i2, h2, e, hl, hc2⟩ := lit 0 i h hc
    refine ⟨f, i2, h2, ?_, by omega, by omega, hc2⟩
    refine Ev.step (fun k => by rw [spec_l10Draw.f]) ?_
    exact ev_pos rfl e
  | succ d ih =>
    intro hd i h hc
    obtain ⟨r1, i1, h1, e1, hc1⟩ := l1Once_ok b i h 4 hc hb
    have hw : wrap64 (((d + 1 : Nat) : Int) - 1) = (d : Int) := by rw [wrap_id (by omega) (by omega)]; omega
    have hp : 2 ^ (d + 1 + 1) = 2 * 2 ^ (d + 1) := by rw [Nat.pow_succ 2 (d + 1)]; omega
    have hb2 : 2 ^ (d + 1) ≤ 2 ^ 4 := Nat.pow_le_pow_right (by decide) (show d + 1 ≤ 4 by omega)
    have hb3 : 1 ≤ 2 ^ (d + 1) := Nat.one_le_two_pow
    generalize 2 ^ (d + 1) = P at hp hb2 hb3 ih
    rw [hp]
    cases r1 with
    | true =>
      obtain ⟨f, i2, h2, e, hl, hc2⟩ := lit ((d + 1 : Nat) : Int) i1 h1 hc1
      refine ⟨f, i2, h2, ?_, by omega, by omega, hc2⟩
      refine Ev.step (fun k => by rw [spec_l10Draw.f]) ?_
      exact ev_neg (by omega) (ev_bind0 e1 e)
    | false =>
      obtain ⟨r2, i2, h2, e2, hc2⟩ := l1Once_ok b i1 h1 4 hc1 hb
      obtain ⟨f, i3, h3, e3, hl1, hl2, hc3⟩ := ih (by omega) i2 h2 hc2
      cases r2 with
      | true =>
        refine ⟨f ++ [-1], i3, h3, ?_, by simp, by rw [List.length_append, List.length_singleton]; omega, hc3⟩
        refine Ev.step (fun k => by rw [spec_l10Draw.f]) ?_
        refine ev_neg (by omega) (ev_bind0 e1 ?_)
        refine Ev.step (fun k => by rw [spec_l10Draw.j0]) ?_
        rw [hw]
        exact ev_neg (by simp) (ev_bind0 e2 (ev_pos rfl (Ev.bind e3 (ev_pos (by dsimp only; omega) (Ev.now _)))))
      | false =>
        obtain ⟨g, i4, h4, e4, hg1, hg2, hc4⟩ := ih (by omega) i3 h3 hc3
        obtain ⟨r5, i5, h5, e5, _, _, _, hc5⟩ := l1Below_ok b i4 h4 3 hc4 hb
        refine ⟨f ++ g ++ [wrap64 ((-2) - r5)], i5, h5, ?_, by rw [List.length_append, List.length_append, List.length_singleton]; omega, by rw [List.length_append, List.length_append, List.length_singleton]; omega, hc5⟩
        refine Ev.step (fun k => by rw [spec_l10Draw.f]) ?_
        refine ev_neg (by omega) (ev_bind0 e1 ?_)
        refine Ev.step (fun k => by rw [spec_l10Draw.j0]) ?_
        rw [hw]
        exact ev_neg (by simp) (ev_bind0 e2 (ev_neg (by simp) (Ev.bind e3 (Ev.bind e4 (ev_pos (by dsimp only; omega) (ev_bind0 rfl (ev_bind0 e5 (ev_pos (by rw [List.length_append]; dsimp only; omega) (Ev.now _)))))))))
theorem l10Any_ok (b : List Int) (hb : b.length ≤ 1048576) (i h : Int) (hc : Cur b i) : ∃ f i2 h2, Ev (fun k => spec_l10Any.f k b i h) (f, i2, h2) ∧ f.length ≤ 15 ∧ Cur b i2 := by
  obtain ⟨f, i1, h1, e1, hl1, hl2, hc1⟩ := l10Draw_ok b hb 3 (by omega) i h hc
  have hl3 : f.length < 16 := hl2
  obtain ⟨r, i2, h2, e2, h20, h2lt, _, hc2⟩ := l1Below_ok b i1 h1 10 hc1 hb
  unfold spec_l10Any.f
  by_cases r0 : r = 0
  · obtain ⟨q, i3, h3, e3, h30, h3lt, _, hc3⟩ := l1Below_ok b i2 h2 (f.length : Int) hc2 hb
    obtain ⟨x, i4, h4, e4, _, hc4⟩ := l1Int_ok b i3 h3 [(-5), (-4), 5, 6, 9223372036854775807] hc3 hb (by decide)
    exact ⟨f.set q.toNat x, i4, h4, Ev.bind e1 (ev_bind0 e2 (ev_pos r0 (ev_bind0 e3 (ev_bind0 e4 (ev_pos h30 (ev_pos (h3lt (by omega)) (Ev.now _))))))), by rw [List.length_set]; omega, hc4⟩
  · by_cases r1 : r = 1
    · exact ⟨f.drop 1, i2, h2, Ev.bind e1 (ev_bind0 e2 (ev_neg r0 (ev_pos r1 (ev_pos (by dsimp only; omega) (Ev.now _))))), by rw [List.length_drop]; omega, hc2⟩
    · exact ⟨f, i2, h2, Ev.bind e1 (ev_bind0 e2 (ev_neg r0 (ev_neg r1 (Ev.now _)))), by omega, hc2⟩
theorem l10Letters_l0 (b : List Int) (hb : b.length ≤ 1048576) : ∀ (d : Nat) (ls : List Bool) (i h : Int), ls.length + d ≤ 6 → Cur b i → ∃ l2 i2 h2, Ev (fun k => spec_l10Letters.l0 k ls (d : Int) b i h) (l2, i2, h2) ∧ l2.length ≤ 6 ∧ Cur b i2 := by
  intro d
  induction d with
  | zero =>
    intro ls i h hl hc
    refine ⟨ls, i, h, ?_, by omega, hc⟩
    refine Ev.step (fun k => by rw [spec_l10Letters.l0]) ?_
    exact ev_neg (by omega) (Ev.now _)
  | succ d ih =>
    intro ls i h hl hc
    obtain ⟨r, i1, h1, e1, hc1⟩ := l1Once_ok b i h 2 hc hb
    obtain ⟨l2, i2, h2, e2, hl2, hc2⟩ := ih (ls ++ [r]) i1 h1 (by rw [List.length_append, List.length_singleton]; omega) hc1
    refine ⟨l2, i2, h2, ?_, hl2, hc2⟩
    refine Ev.step (fun k => by rw [spec_l10Letters.l0]) ?_
    rw [wrap_id (by omega) (by omega), show ((d + 1 : Nat) : Int) - 1 = (d : Int) by omega]
    exact ev_pos (by omega) (ev_bind0 e1 (ev_pos (by omega) e2))
theorem l10Letters_ok (b : List Int) (hb : b.length ≤ 1048576) (i h : Int) (hc : Cur b i) : ∃ l2 i2 h2, Ev (fun k => spec_l10Letters.f k b i h) (l2, i2, h2) ∧ l2.length ≤ 6 ∧ Cur b i2 := by
  obtain ⟨r, i1, h1, e1, h0, hlt, _, hc1⟩ := l1Below_ok b i h 7 hc hb
  have := hlt (by omega)
  obtain ⟨l2, i2, h2, e2, hl2, hc2⟩ := l10Letters_l0 b hb r.toNat [] i1 h1 (by rw [List.length_nil]; omega) hc1
  rw [show (r.toNat : Int) = r by omega] at e2
  unfold spec_l10Letters.f
  exact ⟨l2, i2, h2, ev_bind0 e1 e2, hl2, hc2⟩
theorem drawValue_ok (b : List Int) (hb : b.length ≤ 1048576) : ∃ f ls, Ev (fun k => spec_DrawValue.f k b) (f, ls) ∧ f.length ≤ 15 ∧ ls.length ≤ 6 := by
  obtain ⟨h, e0, hc⟩ := l1New_ok b hb
  obtain ⟨f, i1, h1, e1, hl1, hc1⟩ := l10Any_ok b hb 0 h hc
  obtain ⟨ls, i2, h2, e2, hl2, _⟩ := l10Letters_ok b hb i1 h1 hc1
  unfold spec_DrawValue.f
  exact ⟨f, ls, Ev.bind e0 (Ev.bind e1 (Ev.bind e2 (Ev.now _))), hl1, hl2⟩
theorem drawJoin_ok (b : List Int) (hb : b.length ≤ 1048576) : ∃ f g o, Ev (fun k => spec_DrawJoin.f k b) (f, g, o) ∧ f.length ≤ 15 ∧ g.length ≤ 15 := by
  obtain ⟨h, e0, hc⟩ := l1New_ok b hb
  obtain ⟨f, i1, h1, e1, hl1, hc1⟩ := l10Any_ok b hb 0 h hc
  obtain ⟨g, i2, h2, e2, hl2, hc2⟩ := l10Any_ok b hb i1 h1 hc1
  obtain ⟨x, i4, h4, e4, _, hc4⟩ := l1Int_ok b i2 h2 [(-2), (-3), (-4), (-1), (-5), 0] hc2 hb (by decide)
  unfold spec_DrawJoin.f
  exact ⟨f, g, x, Ev.bind e0 (Ev.bind e1 (Ev.bind e2 (ev_bind0 e4 (Ev.now _)))), hl1, hl2⟩

theorem notOf_len (f : List Int) : (notOf f).length ≤ f.length + 1 := by
  unfold notOf
  split
  · rw [List.length_append, List.length_singleton]; omega
  · rw [List.length_nil]; omega
theorem joinOf_len (f g : List Int) (o : Int) : (joinOf f g o).length ≤ f.length + g.length + 1 := by
  unfold joinOf
  split
  · rw [List.length_append, List.length_append, List.length_singleton]; omega
  · rw [List.length_nil]; omega
theorem FnFormulas_loop (f : List Int) (ls : List Bool) (hf : f.length ≤ 15) (hl : ls.length ≤ 6) : ∀ (d i : Nat), i + d = ls.length → Ev (fun k => laws_FnFormulas.l0 k f ls (lettersOf f) (i : Int)) true := by
  have hw := lettersOf_length f
  obtain ⟨r, hr, hasc⟩ := ascends_ev (lettersOf f) (by omega)
  have hr1 : r = true := hasc.2 (lettersOf_asc f)
  subst hr1
  have last : ∀ i : Int, Ev (fun k => laws_FnFormulas.j3 k f ls (lettersOf f) i false) true := by
    intro i
    refine Ev.step (fun k => by rw [laws_FnFormulas.j3]) ?_
    exact ev_neg (by simp) (Ev.bind hr (Ev.now _))
  intro d
  induction d with
  | zero =>
    intro i h
    refine Ev.step (fun k => by rw [laws_FnFormulas.l0]) ?_
    exact ev_neg (by omega) (last _)
  | succ d ih =>
    intro i h
    refine Ev.step (fun k => by rw [laws_FnFormulas.l0]) ?_
    refine ev_pos (by omega) (Ev.bind (isFormulaI_ev f (by omega)) ?_)
    by_cases hy : isFormula f = true
    · rw [hy]
      refine Ev.step (fun k => by rw [laws_FnFormulas.j3]) ?_
      refine ev_pos rfl (ev_bind0 rfl (ev_pos (by rw [List.length_nil]; omega) (ev_bind0 rfl (ev_pos (by omega) ?_))))
      rw [List.nil_append, wrap_id (by omega) (by omega), Int.toNat_natCast]
      refine ev_pos (by omega) (Ev.bind (containsL_ev (lettersOf f) (i : Int) (by omega)) (ev_ite (fun e => ih (i + 1) (by omega)) (fun e => ?_)))
      refine Ev.bind (value_impl f _ (by omega)) (Ev.bind (value_impl f ls (by omega)) (ev_neg ?_ (ih (i + 1) (by omega))))
      rw [value_letters f ls i _ hy (fun hm => e (decide_eq_true hm))]
      simp
    · rw [show isFormula f = false by simpa using hy]
      exact last _
theorem FnFormulas_join (l0 f : List Int) (ls : List Bool) (hb : l0.length ≤ 1048576) (hf : f.length ≤ 15) (hl : ls.length ≤ 6) : Ev (fun k => laws_FnFormulas.j0 k l0 f ls false) true := by
  have h1 : Ev (fun k => laws_FnFormulas.j1 k f ls) true := by
    refine Ev.step (fun k => by rw [laws_FnFormulas.j1]) ?_
    exact Ev.bind (lettersIn_impl f (by omega)) (FnFormulas_loop f ls hf hl ls.length 0 (by omega))
  obtain ⟨a, b, o, eD, ha, hb2⟩ := drawJoin_ok l0 hb
  refine Ev.step (fun k => by rw [laws_FnFormulas.j0]) ?_
  refine ev_neg (by simp) (Ev.bind eD (Ev.bind (join_impl a b o (by omega) (by omega)) (ev_ite (fun e => ?_) (fun _ => h1))))
  obtain ⟨hv, ho⟩ := value_joinOf (fun k => ls.getD k false) a b o (by omega)
  have hjl := joinOf_length a b o (by omega) (by omega)
  have hj3 : (joinOf a b o).length ≤ 1048576 := by
    unfold joinOf
    split
    · rw [List.length_append, List.length_append, List.length_singleton]; omega
    · rw [List.length_nil]; omega
  refine Ev.bind (value_impl a ls (by omega)) (Ev.bind (value_impl b ls (by omega)) (Ev.bind (value_impl (joinOf a b o) ls hj3) ?_))
  rw [hv]
  dsimp only
  generalize value (fun k => ls.getD k false) a = x
  generalize value (fun k => ls.getD k false) b = y
  have h3 : o = -2 ∨ o = -3 ∨ o = -4 := by omega
  rcases h3 with rfl | rfl | rfl <;> cases x <;> cases y <;>
    (repeat' first | exact h1 | (refine ev_ite (fun e => ?_) (fun e => ?_)) | (exfalso; revert e; decide))
theorem FnFormulas (l0 : List Int) (g0 : l0.length ≤ 9223372036854775807 ∧ ∀ y ∈ l0, (Lit.int .u8 y).wf = true) : ∃ k, laws_FnFormulas.f k l0 = some true := by
  refine Ev.rounds (g := fun k => laws_FnFormulas.f k l0) ?_
  unfold laws_FnFormulas.f
  refine ev_bind0 (big_eq l0) (ev_ite (fun _ => Ev.now _) (fun hm => ?_))
  have hb : l0.length ≤ 1048576 := by
    rw [decide_eq_true_eq] at hm
    omega
  obtain ⟨f, ls, eD, hf, hl⟩ := drawValue_ok l0 hb
  have hj := FnFormulas_join l0 f ls hb hf hl
  have hI := isFormulaI_ev f (by omega)
  have hT := text_impl f (by omega)
  have htext : (isFormula f != ((if isFormula f = true then textOf (evalS letS noS opS f []) else ByteArray.empty).toList != ([] : List UInt8))) = false := by
    by_cases hy : isFormula f = true
    · rw [if_pos hy, hy]
      have := text_some f hy
      have h2 : (textOf (evalS letS noS opS f [])).toList ≠ [] := fun h => this (toList_nil h)
      simpa using h2
    · rw [if_neg hy, show isFormula f = false by simpa using hy, toList_empty]
      decide
  refine Ev.bind eD (Ev.bind (notOf_impl f (by omega)) (Ev.bind hI (Ev.bind (isFormula_spec f (by omega)) (ev_neg (by simp) (ev_ite (fun e => ?_) (fun e => ?_))))))
  · have hnl := notOf_length f (by omega)
    have hn3 : (notOf f).length ≤ 1048576 := by
      unfold notOf
      split
      · rw [List.length_append, List.length_singleton]; omega
      · rw [List.length_nil]; omega
    refine Ev.bind (value_impl (notOf f) ls hn3) (Ev.bind (value_impl f ls (by omega)) (ev_neg ?_ (Ev.bind hI (Ev.bind hT ?_))))
    · rw [value_notOf _ f (by omega)]
      simp
    · rw [htext]
      exact hj
  · refine Ev.bind hI (Ev.bind hT ?_)
    rw [htext]
    exact hj
end Go.Proofs.Ytlbecibchkamjaa.Pure
