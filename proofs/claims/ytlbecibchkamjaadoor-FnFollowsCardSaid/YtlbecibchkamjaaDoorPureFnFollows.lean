/- The plain statement of the law FnFollows, for all numbers and lists. -/
import Derived.Test.YtlbecibchkamjaaDoorPFnFollowsx0
import Derived.Test.YtlbecibchkamjaaDoorPFnFollowsx1
import Derived.Test.YtlbecibchkamjaaDoorPFnFollowsx2
import Derived.Test.YtlbecibchkamjaaDoorPFnFollowsx3
import Derived.Test.YtlbecibchkamjaaDoorPFnFollowsx4
import Derived.Test.YtlbecibchkamjaaDoorPFnFollowsx5
import Derived.Test.YtlbecibchkamjaaDoorPFnFollowsx6
import Derived.Test.YtlbecibchkamjaaDoorPFnFollowsx7
import Derived.Test.YtlbecibchkamjaaDoorBase
set_option linter.unusedVariables false
set_option linter.unusedSimpArgs false
namespace Go.Proofs.YtlbecibchkamjaaDoor.Pure
open Go.RowKit Go.Proofs.YtlbecibchkamjaaDoor.PFnFollows Go.Proofs.YtlbecibchkamjaaDoorW.PrintWords Go.Proofs.YtlbecibchkamjaaDoorW.PrintLast Go.Proofs.YtlbecibchkamjaaDoorW.PrintMore Go.Proofs.YtlbecibchkamjaaDoor.Base
theorem l1In_eq (x a b : Int) : spec_l1In.f x a b = some (decide (a ≤ x ∧ x ≤ b)) := by
  unfold spec_l1In.f
  by_cases h : a ≤ x <;> simp [h]
theorem inRange_eq (x a b : Int) : impl_InRange.f x a b = some (decide (a ≤ x ∧ x ≤ b)) := by
  unfold impl_InRange.f
  by_cases h : a ≤ x <;> simp [h]

/-- Where a reader of draws stands: within its bytes. -/
def Cur (b : List Int) (i : Int) : Prop := 0 ≤ i ∧ i ≤ b.length
theorem and255 (x : Int) : 0 ≤ Go.bits .and .i64 x 255 ∧ Go.bits .and .i64 x 255 ≤ 255 := by
  have h : (BitVec.ofInt 64 x &&& BitVec.ofInt 64 255).toNat ≤ 255 := by
    rw [BitVec.toNat_and]
    have h2 : (BitVec.ofInt 64 255).toNat = 255 := by decide
    rw [h2]
    exact Nat.and_le_right
  have e : Go.bits .and .i64 x 255 = IntKind.i64.wrap ((BitVec.ofInt 64 x &&& BitVec.ofInt 64 255).toNat : Int) := rfl
  rw [e, IntKind.wrap_i64]
  omega
theorem l1Byte_ok (b : List Int) (i h : Int) (hc : Cur b i) (hb : b.length ≤ 1048576) : ∃ r i2 h2, spec_l1Byte.f b i h = some (r, i2, h2) ∧ (0 ≤ r ∧ r ≤ 255) ∧ Cur b i2 := by
  obtain ⟨hc0, hc1⟩ := hc
  unfold spec_l1Byte.f
  by_cases hi : i < (b.length : Int)
  · rw [if_pos hi, if_pos hc0, wrap_id (x := i + 1) (by omega) (by omega)]
    exact ⟨_, _, _, rfl, and255 _, by unfold Cur; omega⟩
  · rw [if_neg hi]
    exact ⟨_, _, _, rfl, and255 _, hc0, hc1⟩
theorem tmod_ok (x n : Int) (hx : 0 ≤ x) (hn : 0 < n) : 0 ≤ Int.tmod x n ∧ Int.tmod x n < n := by
  rw [Int.tmod_eq_emod_of_nonneg hx]
  exact ⟨Int.emod_nonneg _ (by omega), Int.emod_lt_of_pos _ hn⟩
theorem l1Below_ok (b : List Int) (i h n : Int) (hc : Cur b i) (hb : b.length ≤ 1048576) : ∃ r i2 h2, spec_l1Below.f b i h n = some (r, i2, h2) ∧ 0 ≤ r ∧ (0 < n → r < n) ∧ (n ≤ 0 → r = 0) ∧ Cur b i2 := by
  unfold spec_l1Below.f
  by_cases h0 : n ≤ 0
  · rw [if_pos h0]
    exact ⟨_, _, _, rfl, by omega, by omega, fun _ => rfl, hc⟩
  · rw [if_neg h0]
    by_cases h1 : n ≤ 256
    · obtain ⟨r, i2, h2, e, hr, hc2⟩ := l1Byte_ok b i h hc hb
      rw [if_pos h1, e]
      simp only [Option.bind_some]
      rw [if_neg (by omega)]
      exact ⟨_, _, _, rfl, (tmod_ok r n hr.1 (by omega)).1, fun _ => (tmod_ok r n hr.1 (by omega)).2, by omega, hc2⟩
    · obtain ⟨r, i2, h2, e, hr, hc2⟩ := l1Byte_ok b i h hc hb
      obtain ⟨r3, i3, h3, e3, hr3, hc3⟩ := l1Byte_ok b i2 h2 hc2 hb
      obtain ⟨r4, i4, h4, e4, hr4, hc4⟩ := l1Byte_ok b i3 h3 hc3 hb
      rw [if_neg h1, e]
      simp only [Option.bind_some]
      rw [e3]
      simp only [Option.bind_some]
      rw [e4]
      simp only [Option.bind_some]
      rw [if_neg (by omega), wrap_id (x := r * 65536) (by omega) (by omega), wrap_id (x := r3 * 256) (by omega) (by omega), wrap_id (x := r * 65536 + r3 * 256) (by omega) (by omega), wrap_id (x := r * 65536 + r3 * 256 + r4) (by omega) (by omega)]
      exact ⟨_, _, _, rfl, (tmod_ok _ n (by omega) (by omega)).1, fun _ => (tmod_ok _ n (by omega) (by omega)).2, by omega, hc4⟩
theorem l1New_l0 (b : List Int) (hb : b.length ≤ 1048576) : ∀ (zs : List Int) (i : Nat) (h : Int), b.drop i = zs → ∃ h2, Ev (fun k => spec_l1New.l0 k b h (i : Int)) (b, 0, h2) := by
  intro zs
  induction zs with
  | nil =>
    intro i h hd
    have := at_end hd
    refine ⟨h, Ev.step (fun k => by rw [spec_l1New.l0]) ?_⟩
    exact ev_neg (by omega) (Ev.now _)
  | cons z zs ih =>
    intro i h hd
    obtain ⟨hi, hz, hd2, _⟩ := at_drop hd
    by_cases h4 : (i : Int) < 4000
    · obtain ⟨h2, hev⟩ := ih (i + 1) (Go.bits .and .i64 (wrap64 ((wrap64 ((wrap64 (h * 137)) + (wrap64 (rd b (i : Int))))) + 11)) 1073741823) hd2
      refine ⟨h2, Ev.step (fun k => by rw [spec_l1New.l0]) ?_⟩
      refine ev_pos (by omega) (ev_pos h4 (ev_pos (by omega) ?_))
      rw [wrap_id (x := (i : Int) + 1) (by omega) (by omega)]
      exact hev
    · refine ⟨h, Ev.step (fun k => by rw [spec_l1New.l0]) ?_⟩
      exact ev_pos (by omega) (ev_neg h4 (Ev.now _))
theorem l1New_ok (b : List Int) (hb : b.length ≤ 1048576) : ∃ h2, Ev (fun k => spec_l1New.f k b) (b, 0, h2) ∧ Cur b 0 := by
  unfold spec_l1New.f
  obtain ⟨h2, hev⟩ := l1New_l0 b hb b 0 (wrap64 (193017 + (b.length : Int))) rfl
  exact ⟨h2, hev, by unfold Cur; omega⟩
theorem l1Int_ok (b : List Int) (i h : Int) (l : List Int) (hc : Cur b i) (hb : b.length ≤ 1048576) (hl : 0 < l.length) : ∃ r i2 h2, spec_l1Int.f b i h l = some (r, i2, h2) ∧ r ∈ l ∧ Cur b i2 := by
  unfold spec_l1Int.f
  obtain ⟨r, i2, h2, e, h0, hlt, _, hc2⟩ := l1Below_ok b i h (l.length : Int) hc hb
  have := hlt (by omega)
  rw [e]
  simp only [Option.bind_some]
  rw [if_pos h0, if_pos this]
  refine ⟨_, _, _, rfl, ?_, hc2⟩
  obtain ⟨n, rfl⟩ : ∃ n : Nat, r = n := ⟨r.toNat, by omega⟩
  rw [rd_nat l n (by omega)]
  exact List.getElem_mem _
theorem l1Once_ok (b : List Int) (i h n : Int) (hc : Cur b i) (hb : b.length ≤ 1048576) : ∃ (r : Bool) (i2 h2 : Int), spec_l1Once.f b i h n = some (r, i2, h2) ∧ Cur b i2 := by
  unfold spec_l1Once.f
  obtain ⟨r, i2, h2, e, _, _, _, hc2⟩ := l1Below_ok b i h n hc hb
  rw [e]
  exact ⟨_, _, _, rfl, hc2⟩
theorem big_eq (b : List Int) : laws_big.f b = some (decide ((b.length : Int) > 1048576)) := rfl

/-- How many values are on the pile behind a formula's signs, from n on. -/
def shape : List Int → Nat → Option Nat
  | [], n => some n
  | s :: r, n => if 0 ≤ s ∧ s ≤ 5 then shape r (n + 1) else if s = -1 then (if 1 ≤ n then shape r n else none) else if -4 ≤ s ∧ s ≤ -2 then (if 2 ≤ n then shape r (n - 1) else none) else none
def isFormula (f : List Int) : Bool := decide (shape f 0 = some 1) && decide (f.length ≤ 24)
/-- The pile (its top first) behind a formula's signs. -/
def evalS {β : Type} (lit : Int → β) (no : β → β) (op : Int → β → β → β) : List Int → List β → Option (List β)
  | [], st => some st
  | s :: r, st => if 0 ≤ s ∧ s ≤ 5 then evalS lit no op r (lit s :: st) else if s = -1 then (match st with | x :: st2 => evalS lit no op r (no x :: st2) | [] => none) else if -4 ≤ s ∧ s ≤ -2 then (match st with | b :: a :: st2 => evalS lit no op r (op s a b :: st2) | _ => none) else none
theorem evalS_shape {β : Type} (lit : Int → β) (no : β → β) (op : Int → β → β → β) : ∀ (f : List Int) (st : List β), (evalS lit no op f st).map List.length = shape f st.length := by
  intro f
  induction f with
  | nil => intro st; rfl
  | cons s r ih =>
    intro st
    unfold evalS shape
    by_cases h0 : 0 ≤ s ∧ s ≤ 5
    · rw [if_pos h0, if_pos h0, ih]; rfl
    · rw [if_neg h0, if_neg h0]
      by_cases h1 : s = -1
      · rw [if_pos h1, if_pos h1]
        cases st with
        | nil => rfl
        | cons x st2 => rw [if_pos (by simp)]; dsimp only; rw [ih]; rfl
      · rw [if_neg h1, if_neg h1]
        by_cases h2 : -4 ≤ s ∧ s ≤ -2
        · rw [if_pos h2, if_pos h2]
          match st with
          | [] => rfl
          | [x] => rfl
          | b :: a :: st2 => rw [if_pos (by simp)]; dsimp only; rw [ih]; rfl
        · rw [if_neg h2, if_neg h2]; rfl
/-- One homomorphism's image of the other's pile. -/
theorem evalS_map {β γ : Type} {lit : Int → β} {no : β → β} {op : Int → β → β → β} {lit2 : Int → γ} {no2 : γ → γ} {op2 : Int → γ → γ → γ} (h : β → γ)
    (h0 : ∀ s, 0 ≤ s → s ≤ 5 → h (lit s) = lit2 s) (h1 : ∀ x, h (no x) = no2 (h x)) (h2 : ∀ s a b, -4 ≤ s → s ≤ -2 → h (op s a b) = op2 s (h a) (h b)) :
    ∀ (f : List Int) (st : List β), evalS lit2 no2 op2 f (st.map h) = (evalS lit no op f st).map (List.map h) := by
  intro f
  induction f with
  | nil => intro st; rfl
  | cons s r ih =>
    intro st
    unfold evalS
    by_cases k0 : 0 ≤ s ∧ s ≤ 5
    · rw [if_pos k0, if_pos k0, ← ih, List.map_cons, h0 s k0.1 k0.2]
    · rw [if_neg k0, if_neg k0]
      by_cases k1 : s = -1
      · rw [if_pos k1, if_pos k1]
        cases st with
        | nil => rfl
        | cons x st2 => simp only [List.map_cons]; rw [← ih, List.map_cons, h1]
      · rw [if_neg k1, if_neg k1]
        by_cases k2 : -4 ≤ s ∧ s ≤ -2
        · rw [if_pos k2, if_pos k2]
          match st with
          | [] => rfl
          | [x] => rfl
          | b :: a :: st2 => simp only [List.map_cons]; rw [← ih, List.map_cons, h2 s a b k2.1 k2.2]
        · rw [if_neg k2, if_neg k2]; rfl
def opB (s : Int) (a b : Bool) : Bool := if s = -2 then a && b else if s = -3 then a || b else !a || b
/-- A formula's value where v has the letters' values; false where it is no formula. -/
def valB (v : Nat → Bool) (f : List Int) : Bool := match evalS (fun s => v s.toNat) (fun x => !x) opB f [] with | some [x] => x | _ => false
def value (v : Nat → Bool) (f : List Int) : Bool := isFormula f && valB v f
theorem isFormula_spec_l0 (xs : List Int) (hn : xs.length ≤ 9223372036854775800) : ∀ (zs : List Int) (i n : Nat), xs.drop i = zs → n ≤ i → Ev (fun k => spec_IsFormula.l0 k xs (n : Int) (i : Int)) (decide (shape zs n = some 1) && decide (xs.length ≤ 24)) := by
  intro zs
  induction zs with
  | nil =>
    intro i n h _
    have := at_end h
    refine Ev.step (fun k => by rw [spec_IsFormula.l0]) ?_
    refine ev_neg (by omega) (ev_ite (fun e => ev_eq (Ev.now _) ?_) (fun e => ev_eq (Ev.now _) ?_))
    · have : n = 1 := by omega
      subst this
      simp [shape]
      omega
    · have : n ≠ 1 := by omega
      simp [shape, this]
  | cons z zs ih =>
    intro i n h hni
    obtain ⟨hi, hz, h2, _⟩ := at_drop h
    refine Ev.step (fun k => by rw [spec_IsFormula.l0]) ?_
    refine ev_pos (by omega) (ev_pos (by omega) ?_)
    rw [rd_get hz, wrap_id (x := (i : Int) + 1) (by omega) (by omega)]
    have hsh : shape (z :: zs) n = if 0 ≤ z ∧ z ≤ 5 then shape zs (n + 1) else if z = -1 then (if 1 ≤ n then shape zs n else none) else if -4 ≤ z ∧ z ≤ -2 then (if 2 ≤ n then shape zs (n - 1) else none) else none := rfl
    rw [hsh]
    refine ev_bind0 (l1In_eq _ _ _) (ev_ite (fun e0 => ?_) (fun e0 => ?_))
    · simp only [decide_eq_true_eq] at e0
      rw [if_pos e0, wrap_id (by omega) (by omega)]
      exact ih (i + 1) (n + 1) h2 (by omega)
    · simp only [decide_eq_true_eq] at e0
      rw [if_neg e0]
      have tail : z ≠ -1 ∨ ¬ 1 ≤ n → Ev (fun k => spec_IsFormula.j1 k xs (n : Int) (i : Int) false) (decide ((if z = -1 then (if 1 ≤ n then shape zs n else none) else if -4 ≤ z ∧ z ≤ -2 then (if 2 ≤ n then shape zs (n - 1) else none) else none) = some 1) && decide (xs.length ≤ 24)) := by
        intro hz1
        refine Ev.step (fun k => by rw [spec_IsFormula.j1]) ?_
        refine ev_neg (by decide) (ev_pos (by omega) (ev_pos (by omega) ?_))
        rw [rd_get hz, wrap_id (x := (i : Int) + 1) (by omega) (by omega)]
        refine ev_bind0 (l1In_eq _ _ _) (ev_ite (fun e2 => ?_) (fun e2 => ev_eq (Ev.now _) ?_))
        · simp only [decide_eq_true_eq] at e2
          rw [if_neg (show ¬ z = -1 by omega), if_pos e2]
          refine ev_ite (fun e3 => ?_) (fun e3 => ev_eq (Ev.now _) ?_)
          · rw [if_pos (by omega), wrap_id (by omega) (by omega), show (n : Int) - 1 = ((n - 1 : Nat) : Int) by omega]
            exact ih (i + 1) (n - 1) h2 (by omega)
          · rw [if_neg (by omega)]
            simp
        · simp only [decide_eq_true_eq] at e2
          rw [if_neg e2]
          rcases hz1 with hz1 | hz1
          · rw [if_neg hz1]; simp
          · rw [if_neg hz1]; simp
      refine ev_ite (fun e1 => ?_) (fun e1 => tail (.inl e1))
      by_cases hn1 : 1 ≤ n
      · rw [if_pos e1, if_pos hn1, show decide ((n : Int) ≥ 1) = true by simp; omega]
        refine Ev.step (fun k => by rw [spec_IsFormula.j1]) (ev_pos rfl ?_)
        rw [wrap_id (x := (i : Int) + 1) (by omega) (by omega)]
        exact ih (i + 1) n h2 (by omega)
      · rw [show decide ((n : Int) ≥ 1) = false by simp; omega]
        exact tail (.inr hn1)
theorem isFormula_spec (f : List Int) (hn : f.length ≤ 9223372036854775800) : Ev (fun k => spec_IsFormula.f k f) (isFormula f) := by
  unfold spec_IsFormula.f
  exact isFormula_spec_l0 f hn f 0 0 rfl (by omega)
theorem shape_bound : ∀ (f : List Int) (n m : Nat), shape f n = some m → m ≤ n + f.length := by
  intro f
  induction f with
  | nil => intro n m h; simp [shape] at h; omega
  | cons s r ih =>
    intro n m h
    unfold shape at h
    rw [List.length_cons]
    split at h
    · have := ih _ _ h; omega
    · split at h
      · split at h
        · have := ih _ _ h; omega
        · simp at h
      · split at h
        · split at h
          · have := ih _ _ h; omega
          · simp at h
        · simp at h
/-- A formula's value in row m. -/
def rowVal (m : Nat) (f : List Int) : Bool := value (fun k => m.testBit k) f
theorem wrap_u64_ (n : Int) : IntKind.u64.wrap n = n % 18446744073709551616 := by simp [IntKind.wrap, IntKind.bits, IntKind.signed]
theorem bits_and_bv (a b : BitVec 64) : Go.bits .and .u64 (a.toNat : Int) (b.toNat : Int) = ((a &&& b).toNat : Int) := by
  show IntKind.u64.wrap ((BitVec.ofInt 64 (a.toNat : Int) &&& BitVec.ofInt 64 (b.toNat : Int)).toNat : Int) = _
  rw [BitVec.ofInt_natCast, BitVec.ofInt_natCast, BitVec.ofNat_toNat, BitVec.ofNat_toNat, BitVec.setWidth_eq, BitVec.setWidth_eq]
  have := (a &&& b).isLt
  rw [wrap_u64_]
  omega
theorem bits_or_bv (a b : BitVec 64) : Go.bits .or .u64 (a.toNat : Int) (b.toNat : Int) = ((a ||| b).toNat : Int) := by
  show IntKind.u64.wrap ((BitVec.ofInt 64 (a.toNat : Int) ||| BitVec.ofInt 64 (b.toNat : Int)).toNat : Int) = _
  rw [BitVec.ofInt_natCast, BitVec.ofInt_natCast, BitVec.ofNat_toNat, BitVec.ofNat_toNat, BitVec.setWidth_eq, BitVec.setWidth_eq]
  have := (a ||| b).isLt
  rw [wrap_u64_]
  omega
theorem bits_not_bv (a : BitVec 64) : Go.bits .xor .u64 18446744073709551615 (a.toNat : Int) = ((~~~a).toNat : Int) := by
  show IntKind.u64.wrap ((BitVec.ofInt 64 18446744073709551615 ^^^ BitVec.ofInt 64 (a.toNat : Int)).toNat : Int) = _
  have h1 : BitVec.ofInt 64 18446744073709551615 = BitVec.allOnes 64 := by decide
  rw [h1, BitVec.ofInt_natCast, BitVec.ofNat_toNat, BitVec.setWidth_eq, BitVec.allOnes_xor]
  have := (~~~a).isLt
  rw [wrap_u64_]
  omega
def letterBV (s : Int) : BitVec 64 := if s = 0 then 12297829382473034410#64 else if s = 1 then 14757395258967641292#64 else if s = 2 then 17361641481138401520#64 else if s = 3 then 18374966859414961920#64 else if s = 4 then 18446462603027742720#64 else 18446744069414584320#64
theorem letterRows_all : ∀ s : Fin 6, impl_letterRows.f 65 ((s.val : Nat) : Int) = some ((letterBV ((s.val : Nat) : Int)).toNat : Int) := by decide +kernel
theorem letterRows_ev (s : Int) (h0 : 0 ≤ s) (h5 : s ≤ 5) : Ev (fun k => impl_letterRows.f k s) ((letterBV s).toNat : Int) := by
  have := letterRows_all ⟨s.toNat, by omega⟩
  rw [show ((s.toNat : Nat) : Int) = s by omega] at this
  exact Ev.of (impl_letterRows.mono s) (k := 65) this
theorem letterBV_bit : ∀ (s : Fin 6) (m : Fin 64), (letterBV ((s.val : Nat) : Int)).getLsbD m.val = m.val.testBit s.val := by decide +kernel
def opV (s : Int) (a b : BitVec 64) : BitVec 64 := if s = -2 then a &&& b else if s = -3 then a ||| b else ~~~a ||| b
def rowsE (f : List Int) : Option (List (BitVec 64)) := evalS letterBV (fun x => ~~~x) opV f []
/-- The rows that rowsOf answers with. -/
def rowsBV (f : List Int) : BitVec 64 := match rowsE f with | some st => st.getLastD 0#64 | none => 0#64
theorem rd_snoc (x : Int) (l : List Int) (i : Int) (h : i = l.length) : rd (l ++ [x]) i = x := by
  subst h
  unfold rd
  simp
theorem iset_snoc (x y : Int) (l : List Int) (i : Int) (h : i = l.length) : (l ++ [x]).set i.toNat y = l ++ [y] := by
  subst h
  rw [Int.toNat_natCast, List.set_append_right _ _ (Nat.le_refl _)]
  simp
theorem itake_snoc (x : Int) (l : List Int) (i : Int) (h : i = l.length) : (l ++ [x]).take i.toNat = l := by
  subst h
  simp
/-- The pile as the program has it: numbers, the top last. -/
def pileV (st : List (BitVec 64)) : List Int := (st.map fun x => (x.toNat : Int)).reverse
theorem pileV_cons (x : BitVec 64) (st : List (BitVec 64)) : pileV (x :: st) = pileV st ++ [(x.toNat : Int)] := by simp [pileV]
theorem pileV_length (st : List (BitVec 64)) : (pileV st).length = st.length := by simp [pileV]
theorem pileV_first (st : List (BitVec 64)) (h : st ≠ []) : rd (pileV st) 0 = ((st.getLastD 0#64).toNat : Int) := by
  unfold rd pileV
  cases st with
  | nil => exact absurd rfl h
  | cons a st =>
    rw [Int.toNat_zero, List.getD_eq_getElem?_getD, ← List.head?_eq_getElem?, List.head?_reverse, List.getLast?_map, List.getLast?_eq_some_getLast h]
    simp [List.getLastD]
def rowsAns (o : Option (List (BitVec 64))) : Int × Bool := match o with | some st => (((st.getLastD 0#64).toNat : Int), decide (st.length = 1)) | none => (0, false)
theorem rowsOf_l0 (xs : List Int) (hn : xs.length ≤ 24) : ∀ (zs : List Int) (i : Nat) (st : List (BitVec 64)), xs.drop i = zs → st.length ≤ i → (zs = [] → st ≠ []) → (st = [] → i = 0) →
    Ev (fun k => impl_rowsOf.l0 k (pileV st) xs xs.length (i : Int)) (rowsAns (evalS letterBV (fun x => ~~~x) opV zs st)) := by
  intro zs
  induction zs with
  | nil =>
    intro i st h hst hne _
    have := at_end h
    have hp := pileV_length st
    have : 0 < st.length := List.length_pos_iff.2 (hne rfl)
    refine Ev.step (fun k => by rw [impl_rowsOf.l0]) ?_
    refine ev_neg (by omega) (ev_pos (by omega) (ev_eq (Ev.now _) ?_))
    rw [pileV_first st (hne rfl), hp]
    simp only [evalS, rowsAns]
    refine Prod.ext rfl ?_
    rw [Bool.eq_iff_iff]
    simp
    omega
  | cons z zs ih =>
    intro i st h hst hne hi0
    obtain ⟨hi, hz, h2, _⟩ := at_drop h
    have hp := pileV_length st
    refine Ev.step (fun k => by rw [impl_rowsOf.l0]) ?_
    refine ev_pos (by omega) (ev_pos (by omega) (ev_pos (by omega) ?_))
    rw [rd_get hz, wrap_id (x := (i : Int) + 1) (by omega) (by omega)]
    unfold evalS
    refine ev_bind0 (inRange_eq _ _ _) (ev_ite (fun e0 => ?_) (fun e0 => ?_))
    · simp only [decide_eq_true_eq] at e0
      rw [if_pos e0]
      refine Ev.bind (letterRows_ev z e0.1 e0.2) (ev_pos (by omega) ?_)
      have ih2 := ih (i + 1) (letterBV z :: st) h2 (by first | (simp; done) | (simp; omega)) (by simp) (by simp)
      rw [pileV_cons] at ih2
      exact ih2
    · simp only [decide_eq_true_eq] at e0
      rw [if_neg e0]
      have no2 : ¬ (-4 ≤ z ∧ z ≤ -2) ∨ ¬ 2 ≤ st.length → Ev (fun k => impl_rowsOf.j2 k (pileV st) z ((pileV st).length : Int) xs xs.length (i : Int) false) ((0, false) : Int × Bool) := by
        intro _
        refine Ev.step (fun k => by rw [impl_rowsOf.j2]) ?_
        exact ev_neg (by decide) (Ev.now _)
      by_cases e1 : z = -1
      · rw [if_pos e1]
        refine ev_pos e1 ?_
        cases st with
        | nil =>
          rw [show decide (((pileV []).length : Int) ≥ 1) = false by rfl]
          refine Ev.step (fun k => by rw [impl_rowsOf.j1]) ?_
          refine ev_neg (by decide) (ev_bind0 (inRange_eq _ _ _) (ev_neg (by first | (simp; done) | (simp; omega)) (no2 (.inr (by simp)))))
        | cons x st2 =>
          rw [show decide (((pileV (x :: st2)).length : Int) ≥ 1) = true by rw [pileV_length]; simp; omega]
          refine Ev.step (fun k => by rw [impl_rowsOf.j1]) ?_
          refine ev_pos rfl ?_
          have ih2 := ih (i + 1) ((~~~x) :: st2) h2 (by simp only [List.length_cons] at hst ⊢; omega) (by simp) (by simp)
          simp only [List.length_cons] at hst hp
          rw [pileV_cons] at ih2
          rw [hp, wrap_id (x := ((st2.length + 1 : Nat) : Int) - 1) (by omega) (by omega), wrap_id (x := (i : Int) + 1) (by omega) (by omega)]
          refine ev_pos (by omega) (ev_pos (by omega) ?_)
          rw [pileV_cons, rd_snoc _ _ _ (by rw [pileV_length]; omega), bits_not_bv, iset_snoc _ _ _ _ (by rw [pileV_length]; omega)]
          exact ih2
      · rw [if_neg e1]
        refine ev_neg e1 (Ev.step (fun k => by rw [impl_rowsOf.j1]) ?_)
        refine ev_neg (by decide) (ev_bind0 (inRange_eq _ _ _) (ev_ite (fun e2 => ?_) (fun e2 => ?_)))
        · simp only [decide_eq_true_eq] at e2
          rw [if_pos e2]
          match st with
          | [] => exact no2 (.inr (by simp))
          | [x] => exact no2 (.inr (by simp))
          | b :: a :: st2 =>
            simp only [List.length_cons] at hst hp
            dsimp only
            rw [hp, show decide (((st2.length + 1 + 1 : Nat) : Int) ≥ 2) = true by simp; omega]
            refine Ev.step (fun k => by rw [impl_rowsOf.j2]) ?_
            refine ev_pos rfl ?_
            have ih2 := ih (i + 1) (opV z a b :: st2) h2 (by first | (simp; done) | (simp; omega)) (by simp) (by simp)
            rw [pileV_cons] at ih2
            rw [hp, wrap_id (x := ((st2.length + 1 + 1 : Nat) : Int) - 2) (by omega) (by omega), wrap_id (x := ((st2.length + 1 + 1 : Nat) : Int) - 1) (by omega) (by omega), wrap_id (x := (i : Int) + 1) (by omega) (by omega)]
            refine ev_pos (by omega) (ev_pos (by omega) (ev_pos (by omega) (ev_pos (by omega) (ev_pos (by omega) ?_))))
            have hb : rd (pileV (b :: a :: st2)) (((st2.length + 1 + 1 : Nat) : Int) - 1) = (b.toNat : Int) := by
              rw [pileV_cons]
              exact rd_snoc _ _ _ (by rw [pileV_length]; first | (simp; done) | (simp; omega))
            have ha : rd (pileV (b :: a :: st2)) (((st2.length + 1 + 1 : Nat) : Int) - 2) = (a.toNat : Int) := by
              rw [pileV_cons, pileV_cons, show ((st2.length + 1 + 1 : Nat) : Int) - 2 = ((pileV st2).length : Int) by rw [pileV_length]; omega]
              unfold rd
              simp
            have ht : (pileV (b :: a :: st2)).take (((st2.length + 1 + 1 : Nat) : Int) - 1).toNat = pileV st2 ++ [(a.toNat : Int)] := by
              rw [pileV_cons, itake_snoc _ _ _ (by rw [pileV_length]; first | (simp; done) | (simp; omega)), pileV_cons]
            rw [hb, ha, ht]
            refine ev_bind0 rfl ?_
            have hlt : ((st2.length + 1 + 1 : Nat) : Int) - 2 < ((pileV st2 ++ [(a.toNat : Int)]).length : Int) := by rw [List.length_append, pileV_length]; simp; omega
            have hset : ∀ y : Int, (pileV st2 ++ [(a.toNat : Int)]).set (((st2.length + 1 + 1 : Nat) : Int) - 2).toNat y = pileV st2 ++ [y] := fun y => iset_snoc _ _ _ _ (by rw [pileV_length]; omega)
            refine ev_ite (fun e3 => ev_pos hlt ?_) (fun e3 => ev_ite (fun e4 => ev_pos hlt ?_) (fun e4 => ev_pos hlt ?_))
            · rw [bits_and_bv, hset]
              rw [show opV z a b = a &&& b by simp [opV, e3]] at ih2 ⊢
              exact ih2
            · rw [bits_or_bv, hset]
              rw [show opV z a b = a ||| b by simp [opV, e4]] at ih2 ⊢
              exact ih2
            · rw [bits_not_bv, bits_or_bv, hset]
              rw [show opV z a b = ~~~a ||| b by simp [opV, e3, e4]] at ih2 ⊢
              exact ih2
        · simp only [decide_eq_true_eq] at e2
          rw [if_neg e2]
          exact no2 (.inl e2)
def shapeI (f : List Int) : Bool := decide ((rowsE f).map List.length = some 1) && decide (f.length ≤ 24)
theorem rowsOf_impl (f : List Int) (hn : f.length ≤ 9223372036854775807) : Ev (fun k => impl_rowsOf.f k f) ((if 1 ≤ f.length ∧ f.length ≤ 24 then (rowsAns (rowsE f)).1 else 0), shapeI f) := by
  unfold impl_rowsOf.f
  refine ev_bind0 (inRange_eq _ _ _) (ev_ite (fun e => ?_) (fun e => ev_eq (Ev.now _) ?_))
  · simp only [decide_eq_true_eq] at e
    rw [if_pos (by omega)]
    refine ev_eq (rowsOf_l0 f (by omega) f 0 [] rfl (by simp) (by intro hf; subst hf; simp at e) (fun _ => rfl)) ?_
    show rowsAns (rowsE f) = _
    refine Prod.ext rfl ?_
    unfold shapeI rowsAns
    cases hE : rowsE f with
    | none => simp
    | some st => simp; omega
  · simp only [decide_eq_true_eq] at e
    rw [if_neg (by omega)]
    refine Prod.ext rfl ?_
    unfold shapeI
    by_cases h0 : f = []
    · subst h0; simp [rowsE, evalS]
    · have : 1 ≤ f.length := List.length_pos_iff.2 h0
      simp [show ¬ f.length ≤ 24 by omega]
theorem rowsAns_bv (o : Option (List (BitVec 64))) : ∃ bv : BitVec 64, (rowsAns o).1 = (bv.toNat : Int) := by
  cases o with
  | none => exact ⟨0#64, rfl⟩
  | some st => exact ⟨_, rfl⟩
theorem shapeI_eq (f : List Int) : shapeI f = isFormula f := by
  unfold shapeI isFormula rowsE
  rw [evalS_shape]
  rfl
theorem letterBV_bit2 (s : Int) (h0 : 0 ≤ s) (h5 : s ≤ 5) (m : Nat) (hm : m < 64) : (letterBV s).getLsbD m = m.testBit s.toNat := by
  have := letterBV_bit ⟨s.toNat, by omega⟩ ⟨m, hm⟩
  rw [show ((s.toNat : Nat) : Int) = s by omega] at this
  exact this
/-- Bit m of the rows of a formula is its value in row m. -/
theorem rowsBV_bit (f : List Int) (hf : isFormula f = true) (m : Nat) (hm : m < 64) : (rowsBV f).getLsbD m = valB (fun k => m.testBit k) f := by
  have hmap := evalS_map (lit := letterBV) (no := fun x => ~~~x) (op := opV) (lit2 := fun s => m.testBit s.toNat) (no2 := fun x => !x) (op2 := opB) (fun x : BitVec 64 => x.getLsbD m)
    (fun s h0 h5 => letterBV_bit2 s h0 h5 m hm) (fun x => by simp [hm]) (fun s a b h1 h2 => by
      unfold opV opB
      split
      · simp
      · split
        · simp
        · simp [hm]) f []
  simp only [isFormula, Bool.and_eq_true, decide_eq_true_eq] at hf
  have hs := evalS_shape letterBV (fun x => ~~~x) opV f []
  rw [show shape f ([] : List (BitVec 64)).length = some 1 from hf.1] at hs
  unfold rowsBV valB rowsE
  cases hE : evalS letterBV (fun x => ~~~x) opV f [] with
  | none => rw [hE] at hs; simp at hs
  | some st =>
    rw [hE] at hs hmap
    match st, hs with
    | [x], _ =>
      rw [show evalS (fun s => m.testBit s.toNat) (fun x => !x) opB f [] = some [x.getLsbD m] from hmap]
      rfl
theorem rowsOf_ev (f : List Int) (hn : f.length ≤ 9223372036854775807) : ∃ bv : BitVec 64, Ev (fun k => impl_rowsOf.f k f) ((bv.toNat : Int), isFormula f) ∧ (isFormula f = true → ∀ m, m < 64 → bv.getLsbD m = valB (fun k => m.testBit k) f) := by
  have h := rowsOf_impl f hn
  rw [shapeI_eq] at h
  by_cases hf : isFormula f = true
  · have hf2 := hf
    simp only [isFormula, Bool.and_eq_true, decide_eq_true_eq] at hf2
    have h1 : 1 ≤ f.length := by
      cases f with
      | nil => simp [shape] at hf2
      | cons a r => simp
    rw [if_pos ⟨h1, hf2.2⟩] at h
    refine ⟨rowsBV f, ev_eq h ?_, fun _ m hm => rowsBV_bit f hf m hm⟩
    unfold rowsAns rowsBV
    cases rowsE f <;> rfl
  · by_cases h1 : 1 ≤ f.length ∧ f.length ≤ 24
    · rw [if_pos h1] at h
      obtain ⟨bv, hb⟩ := rowsAns_bv (rowsE f)
      rw [hb] at h
      exact ⟨bv, h, fun h2 => absurd h2 hf⟩
    · rw [if_neg h1] at h
      exact ⟨0#64, h, fun h2 => absurd h2 hf⟩
theorem rowsOf_rows (f : List Int) (hn : f.length ≤ 9223372036854775807) : ∃ bv : BitVec 64, Ev (fun k => impl_rowsOf.f k f) ((bv.toNat : Int), isFormula f) ∧ (isFormula f = true → ∀ m, m < 64 → bv.getLsbD m = rowVal m f) := by
  obtain ⟨bv, h, hb⟩ := rowsOf_ev f hn
  refine ⟨bv, h, fun hf m hm => ?_⟩
  rw [hb hf m hm, rowVal, value, hf, Bool.true_and]
theorem rowVal_false (f : List Int) (m : Nat) (hf : isFormula f = false) : rowVal m f = false := by simp [rowVal, value, hf]
theorem bv_ext64 {a b : BitVec 64} (h : ∀ m, m < 64 → a.getLsbD m = b.getLsbD m) : a = b := BitVec.eq_of_getLsbD_eq h
def countRows (f : List Int) : Nat := (List.range 64).countP fun m => rowVal m f
theorem countRows_all (f : List Int) : countRows f = 64 ↔ ∀ m, m < 64 → rowVal m f = true := by
  unfold countRows
  have h := List.countP_eq_length (p := fun m => rowVal m f) (l := List.range 64)
  rw [List.length_range] at h
  rw [h]
  simp

theorem areAlike_impl (f g : List Int) (hf : f.length ≤ 1048576) (hg : g.length ≤ 1048576) : Ev (fun k => impl_AreAlike.f k f g) ((List.range 64).all (fun j => rowVal j f == rowVal j g) && (isFormula f && isFormula g)) := by
  obtain ⟨a, ha, ha2⟩ := rowsOf_rows f (by omega)
  obtain ⟨b, hb, hb2⟩ := rowsOf_rows g (by omega)
  unfold impl_AreAlike.f
  refine Ev.bind ha (Ev.bind hb (ev_ite (fun e => ev_ite (fun e2 => ev_eq (Ev.now _) ?_) (fun e2 => ev_eq (Ev.now _) ?_)) (fun e => ev_eq (Ev.now _) ?_)))
  · dsimp only at e e2
    dsimp only
    rw [e, e2, Bool.eq_iff_iff]
    simp only [Bool.and_true, beq_iff_eq, List.all_eq_true, List.mem_range]
    constructor
    · intro h m hm
      have : a = b := BitVec.eq_of_toNat_eq (by omega)
      rw [← ha2 e m hm, ← hb2 e2 m hm, this]
    · intro h
      have : a = b := bv_ext64 fun m hm => by rw [ha2 e m hm, hb2 e2 m hm, h m hm]
      rw [this]
  · dsimp only at e2
    simp [e2]
  · dsimp only at e
    simp [e]
theorem rowsOfAll_l0B (xs : List (List Int)) (hn : xs.length ≤ 1048577) (hi : ∀ y ∈ xs, y.length ≤ 1048576) : ∀ (zs : List (List Int)) (i : Nat) (a : BitVec 64) (ok : Bool), xs.drop i = zs → ∃ b : BitVec 64, Ev (fun k => impl_rowsOfAll.l0 k (a.toNat : Int) ok xs xs.length (i : Int)) ((b.toNat : Int), ok && zs.all isFormula) ∧ (zs.all isFormula = true → ∀ m, m < 64 → b.getLsbD m = (a.getLsbD m && zs.all (rowVal m))) := by
  intro zs
  induction zs with
  | nil =>
    intro i a ok h
    have := at_end h
    refine ⟨a, Ev.step (fun k => by rw [impl_rowsOfAll.l0]) ?_, by simp⟩
    exact ev_neg (by omega) (ev_eq (Ev.now _) (by simp))
  | cons z zs ih =>
    intro i a ok h
    obtain ⟨hlt, hz, h2, _⟩ := at_drop h
    have hr : rd_L2 xs (i : Int) = z := getD_at hz
    have := hi z (List.mem_of_getElem? hz)
    obtain ⟨bv, hb, hb2⟩ := rowsOf_rows z (by omega)
    obtain ⟨b, hev, hbit⟩ := ih (i + 1) (a &&& bv) (ok && isFormula z) h2
    refine ⟨b, Ev.step (fun k => by rw [impl_rowsOfAll.l0]) ?_, fun hok m hm => ?_⟩
    · refine ev_pos (by omega) (ev_pos (by omega) (ev_pos (by omega) ?_))
      rw [hr, wrap_id (by omega) (by omega)]
      refine Ev.bind hb ?_
      dsimp only
      rw [bits_and_bv]
      refine ev_ite (fun e => ev_eq ?_ (show ((b.toNat : Int), (ok && isFormula z) && zs.all isFormula) = _ by simp [Bool.and_assoc])) (fun e => ev_eq ?_ (show ((b.toNat : Int), (ok && isFormula z) && zs.all isFormula) = _ by simp [Bool.and_assoc]))
      · rw [e, Bool.true_and] at hev ⊢
        exact hev
      · have e : ok = false := by simpa using e
        rw [e, Bool.false_and] at hev ⊢
        exact hev
    · rw [List.all_cons, Bool.and_eq_true] at hok
      rw [hbit hok.2 m hm, BitVec.getLsbD_and, hb2 hok.1 m hm, List.all_cons, Bool.and_assoc]
theorem rowsOfAll_l0 (xs : List (List Int)) (hn : xs.length ≤ 1048576) (hi : ∀ y ∈ xs, y.length ≤ 1048576) : ∀ (zs : List (List Int)) (i : Nat) (a : BitVec 64) (ok : Bool), xs.drop i = zs → ∃ b : BitVec 64, Ev (fun k => impl_rowsOfAll.l0 k (a.toNat : Int) ok xs xs.length (i : Int)) ((b.toNat : Int), ok && zs.all isFormula) ∧ (zs.all isFormula = true → ∀ m, m < 64 → b.getLsbD m = (a.getLsbD m && zs.all (rowVal m))) := rowsOfAll_l0B xs (by omega) hi
theorem rowsOfAll_evB (xs : List (List Int)) (hn : xs.length ≤ 1048577) (hi : ∀ y ∈ xs, y.length ≤ 1048576) : ∃ b : BitVec 64, Ev (fun k => impl_rowsOfAll.f k xs) ((b.toNat : Int), xs.all isFormula) ∧ (xs.all isFormula = true → ∀ m, m < 64 → b.getLsbD m = xs.all (rowVal m)) := by
  obtain ⟨b, h, hb⟩ := rowsOfAll_l0B xs hn hi xs 0 (BitVec.allOnes 64) true rfl
  refine ⟨b, ?_, fun hok m hm => ?_⟩
  · unfold impl_rowsOfAll.f
    exact h
  · rw [hb hok m hm, BitVec.getLsbD_allOnes, show decide (m < 64) = true by simp [hm], Bool.true_and]
theorem rowsOfAll_ev (xs : List (List Int)) (hn : xs.length ≤ 1048576) (hi : ∀ y ∈ xs, y.length ≤ 1048576) : ∃ b : BitVec 64, Ev (fun k => impl_rowsOfAll.f k xs) ((b.toNat : Int), xs.all isFormula) ∧ (xs.all isFormula = true → ∀ m, m < 64 → b.getLsbD m = xs.all (rowVal m)) := rowsOfAll_evB xs (by omega) hi
theorem bits_andNot_bv (a b : BitVec 64) : Go.bits .andNot .u64 (a.toNat : Int) (b.toNat : Int) = ((a &&& ~~~b).toNat : Int) := by
  show IntKind.u64.wrap ((BitVec.ofInt 64 (a.toNat : Int) &&& ~~~BitVec.ofInt 64 (b.toNat : Int)).toNat : Int) = _
  rw [BitVec.ofInt_natCast, BitVec.ofInt_natCast, BitVec.ofNat_toNat, BitVec.ofNat_toNat, BitVec.setWidth_eq, BitVec.setWidth_eq]
  have := (a &&& ~~~b).isLt
  rw [wrap_u64_]
  omega
theorem canHold_implB (xs : List (List Int)) (hn : xs.length ≤ 1048577) (hi : ∀ y ∈ xs, y.length ≤ 1048576) : Ev (fun k => impl_CanHold.f k xs) (xs.all isFormula && (List.range 64).any (fun j => xs.all (rowVal j))) := by
  obtain ⟨b, h, hb⟩ := rowsOfAll_evB xs hn hi
  unfold impl_CanHold.f
  refine Ev.bind h (ev_ite (fun e => ev_eq (Ev.now _) ?_) (fun e => ev_eq (Ev.now _) ?_))
  · dsimp only at e
    dsimp only
    rw [e, Bool.true_and, Bool.eq_iff_iff, bne_iff_ne, List.any_eq_true]
    constructor
    · intro h0
      have hz : b ≠ 0#64 := by rintro rfl; exact h0 rfl
      refine Classical.byContradiction fun hno => hz (bv_ext64 fun m hm => ?_)
      rw [BitVec.getLsbD_zero]
      cases hbm : b.getLsbD m with
      | false => rfl
      | true => exact absurd ⟨m, List.mem_range.2 hm, by rw [← hb e m hm, hbm]⟩ hno
    · rintro ⟨m, hm, hall⟩ h0
      have hz : b = 0#64 := BitVec.eq_of_toNat_eq (by simpa using h0)
      have := hb e m (List.mem_range.1 hm)
      rw [hall, hz] at this
      simp at this
  · dsimp only at e
    rw [show xs.all isFormula = false by simpa using e, Bool.false_and]
theorem canHold_impl (xs : List (List Int)) (hn : xs.length ≤ 1048576) (hi : ∀ y ∈ xs, y.length ≤ 1048576) : Ev (fun k => impl_CanHold.f k xs) (xs.all isFormula && (List.range 64).any (fun j => xs.all (rowVal j))) := canHold_implB xs (by omega) hi
def followsB (xs : List (List Int)) (f : List Int) (m : Nat) : Bool := !(xs.all (rowVal m)) || rowVal m f
theorem follows_implB (xs : List (List Int)) (f : List Int) (hf : f.length ≤ 1048576) (hn : xs.length ≤ 1048577) (hi : ∀ y ∈ xs, y.length ≤ 1048576) : Ev (fun k => impl_Follows.f k xs f) ((List.range 64).all (followsB xs f) && (xs.all isFormula && isFormula f)) := by
  obtain ⟨a, ha, ha2⟩ := rowsOfAll_evB xs hn hi
  obtain ⟨b, hb, hb2⟩ := rowsOf_rows f (by omega)
  unfold impl_Follows.f
  refine Ev.bind ha (Ev.bind hb (ev_ite (fun e => ev_ite (fun e2 => ev_eq (Ev.now _) ?_) (fun e2 => ev_eq (Ev.now _) ?_)) (fun e => ev_eq (Ev.now _) ?_)))
  · dsimp only at e e2
    dsimp only
    rw [e, e2, Bool.true_and, Bool.and_true, bits_andNot_bv, Bool.eq_iff_iff, beq_iff_eq, List.all_eq_true]
    constructor
    · intro h m hm
      have hm := List.mem_range.1 hm
      have hz : a &&& ~~~b = 0#64 := BitVec.eq_of_toNat_eq (by simpa using h)
      have hbit : (a &&& ~~~b).getLsbD m = false := by rw [hz]; simp
      rw [BitVec.getLsbD_and, BitVec.getLsbD_not, ha2 e m hm, hb2 e2 m hm] at hbit
      unfold followsB
      revert hbit
      cases xs.all (rowVal m) <;> cases rowVal m f <;> simp [hm]
    · intro h
      have hz : a &&& ~~~b = 0#64 := bv_ext64 fun m hm => by
        have := h m (List.mem_range.2 hm)
        rw [BitVec.getLsbD_and, BitVec.getLsbD_not, ha2 e m hm, hb2 e2 m hm]
        unfold followsB at this
        revert this
        cases xs.all (rowVal m) <;> cases rowVal m f <;> simp
      rw [hz]
      rfl
  · dsimp only at e2
    rw [show isFormula f = false by simpa using e2]
    simp
  · dsimp only at e
    rw [show xs.all isFormula = false by simpa using e]
    simp
theorem follows_impl (xs : List (List Int)) (f : List Int) (hf : f.length ≤ 1048576) (hn : xs.length ≤ 1048576) (hi : ∀ y ∈ xs, y.length ≤ 1048576) : Ev (fun k => impl_Follows.f k xs f) ((List.range 64).all (followsB xs f) && (xs.all isFormula && isFormula f)) := follows_implB xs f hf (by omega) hi
/-- A number by its digits, each of w bits, the lowest first. -/
def num (w : Nat) : List Nat → Nat
  | [] => 0
  | d :: r => d + 2 ^ w * num w r
def pairUp : List Nat → List Nat
  | a :: b :: r => (a + b) :: pairUp r
  | _ => []
def evs : List Nat → List Nat
  | a :: _ :: r => a :: evs r
  | _ => []
def ods : List Nat → List Nat
  | _ :: b :: r => b :: ods r
  | _ => []
def adj : List Nat → List Nat
  | a :: b :: r => (a + b) :: adj (b :: r)
  | [a] => [a]
  | [] => []
theorem land_split (n a b c d : Nat) (ha : a < 2 ^ n) (hc : c < 2 ^ n) : (a + 2 ^ n * b) &&& (c + 2 ^ n * d) = (a &&& c) + 2 ^ n * (b &&& d) := by
  have hp : 0 < 2 ^ n := Nat.two_pow_pos n
  have hm : ((a + 2 ^ n * b) &&& (c + 2 ^ n * d)) % 2 ^ n = a &&& c := by
    rw [Nat.and_mod_two_pow, Nat.add_mul_mod_self_left, Nat.add_mul_mod_self_left, Nat.mod_eq_of_lt ha, Nat.mod_eq_of_lt hc]
  have hd : ((a + 2 ^ n * b) &&& (c + 2 ^ n * d)) / 2 ^ n = b &&& d := by
    rw [Nat.and_div_two_pow, Nat.add_mul_div_left _ _ hp, Nat.add_mul_div_left _ _ hp, Nat.div_eq_of_lt ha, Nat.div_eq_of_lt hc, Nat.zero_add, Nat.zero_add]
  rw [← Nat.mod_add_div ((a + 2 ^ n * b) &&& (c + 2 ^ n * d)) (2 ^ n), hm, hd]
def maskN (w n : Nat) : Nat := num (2 * w) (List.replicate n (2 ^ w - 1))
theorem pow_dbl (w : Nat) : 2 ^ (2 * w) = 2 ^ w * 2 ^ w := by rw [Nat.two_mul, Nat.pow_add]
theorem digit_lt (w a b : Nat) (ha : a < 2 ^ w) (hb : b < 2 ^ w) : a + 2 ^ w * b < 2 ^ (2 * w) := by
  rw [pow_dbl]
  calc a + 2 ^ w * b < 2 ^ w + 2 ^ w * b := by omega
    _ = 2 ^ w * (b + 1) := by rw [Nat.mul_add, Nat.mul_one, Nat.add_comm]
    _ ≤ 2 ^ w * 2 ^ w := Nat.mul_le_mul_left _ hb
theorem low_mask (w a b : Nat) (ha : a < 2 ^ w) : (a + 2 ^ w * b) &&& (2 ^ w - 1) = a := by
  rw [Nat.and_two_pow_sub_one_eq_mod, Nat.add_mul_mod_self_left, Nat.mod_eq_of_lt ha]
theorem mask_lt (w : Nat) : 2 ^ w - 1 < 2 ^ (2 * w) := by
  have h1 := Nat.two_pow_pos w
  have h2 : 2 ^ w ≤ 2 ^ (2 * w) := Nat.pow_le_pow_right (by decide) (by omega)
  omega
theorem land_evs (w : Nat) : ∀ (n : Nat) (l : List Nat), l.length = 2 * n → (∀ x ∈ l, x < 2 ^ w) → num w l &&& maskN w n = num (2 * w) (evs l) := by
  intro n
  induction n with
  | zero =>
    intro l h _
    have : l = [] := List.eq_nil_of_length_eq_zero (by omega)
    subst this
    simp [num, evs]
  | succ n ih =>
    intro l h hl
    match l, h with
    | a :: b :: r, h =>
      have ha := hl a (by simp)
      have hb := hl b (by simp)
      have e1 : num w (a :: b :: r) = (a + 2 ^ w * b) + 2 ^ (2 * w) * num w r := by
        simp only [num]
        rw [pow_dbl, Nat.mul_add, Nat.mul_assoc]
        omega
      have e2 : maskN w (n + 1) = (2 ^ w - 1) + 2 ^ (2 * w) * maskN w n := rfl
      rw [e1, e2, land_split _ _ _ _ _ (digit_lt w a b ha hb) (mask_lt w), low_mask w a b ha, ih r (by simp only [List.length_cons] at h; omega) (fun x hx => hl x (by simp [hx]))]
      rfl
theorem land_ods (w : Nat) : ∀ (n : Nat) (l : List Nat), l.length = 2 * n → (∀ x ∈ l, x < 2 ^ w) → num w l / 2 ^ w &&& maskN w n = num (2 * w) (ods l) := by
  intro n
  induction n with
  | zero =>
    intro l h _
    have : l = [] := List.eq_nil_of_length_eq_zero (by omega)
    subst this
    simp [num, ods]
  | succ n ih =>
    intro l h hl
    match l, h with
    | a :: b :: r, h =>
      have ha := hl a (by simp)
      have hb := hl b (by simp)
      have hp := Nat.two_pow_pos w
      have e1 : num w (a :: b :: r) / 2 ^ w = (b + 2 ^ w * (num w r % 2 ^ w)) + 2 ^ (2 * w) * (num w r / 2 ^ w) := by
        simp only [num]
        rw [Nat.add_mul_div_left _ _ hp, Nat.div_eq_of_lt ha, Nat.zero_add, pow_dbl, Nat.mul_assoc, Nat.add_assoc, ← Nat.mul_add, Nat.mod_add_div]
      have e2 : maskN w (n + 1) = (2 ^ w - 1) + 2 ^ (2 * w) * maskN w n := rfl
      rw [e1, e2, land_split _ _ _ _ _ (digit_lt w b _ hb (Nat.mod_lt _ hp)) (mask_lt w), low_mask w b _ hb, ih r (by simp only [List.length_cons] at h; omega) (fun x hx => hl x (by simp [hx]))]
      rfl
theorem evs_ods (w : Nat) : ∀ (l : List Nat), num w (ods l) + num w (evs l) = num w (pairUp l)
  | [] => rfl
  | [_] => rfl
  | a :: b :: r => by
    simp only [ods, evs, pairUp, num]
    rw [← evs_ods w r, Nat.mul_add]
    omega
theorem level (w n : Nat) (l : List Nat) (h : l.length = 2 * n) (hl : ∀ x ∈ l, x < 2 ^ w) : (num w l / 2 ^ w &&& maskN w n) + (num w l &&& maskN w n) = num (2 * w) (pairUp l) := by
  rw [land_evs w n l h hl, land_ods w n l h hl, evs_ods]
theorem num_adj (w : Nat) : ∀ (l : List Nat), (∀ x ∈ l, x < 2 ^ w) → num w (adj l) = num w l / 2 ^ w + num w l
  | [], _ => by simp [adj, num]
  | [a], hl => by
    have := hl a (by simp)
    simp [adj, num, Nat.div_eq_of_lt this]
  | a :: b :: r, hl => by
    have ha := hl a (by simp)
    have hp := Nat.two_pow_pos w
    have ih := num_adj w (b :: r) (fun x hx => hl x (List.mem_cons_of_mem _ hx))
    rw [adj, num, ih]
    have e1 : num w (a :: b :: r) = a + 2 ^ w * num w (b :: r) := rfl
    rw [e1, Nat.add_mul_div_left _ _ hp, Nat.div_eq_of_lt ha, Nat.zero_add, Nat.mul_add]
    have e2 : num w (b :: r) = b + 2 ^ w * (num w (b :: r) / 2 ^ w) := by
      have hb := hl b (by simp)
      have e3 : num w (b :: r) = b + 2 ^ w * num w r := rfl
      rw [e3, Nat.add_mul_div_left _ _ hp, Nat.div_eq_of_lt hb, Nat.zero_add]
    omega
theorem adj_length : ∀ l : List Nat, (adj l).length = l.length
  | [] => rfl
  | [_] => rfl
  | a :: b :: r => by
    rw [adj, List.length_cons, adj_length (b :: r)]
    rfl
theorem evs_adj : ∀ (n : Nat) (l : List Nat), l.length = 2 * n → evs (adj l) = pairUp l
  | 0, [], _ => rfl
  | n + 1, [a, b], _ => rfl
  | n + 1, a :: b :: c :: r, h => by
    rw [adj, adj, evs, pairUp, evs_adj n (c :: r) (by simp only [List.length_cons] at h ⊢; omega)]
theorem adj_le (m : Nat) : ∀ (l : List Nat), (∀ x ∈ l, x ≤ m) → ∀ x ∈ adj l, x ≤ 2 * m
  | [], _ => by simp [adj]
  | [a], hl => by
    intro x hx
    have := hl a (by simp)
    simp [adj] at hx
    omega
  | a :: b :: r, hl => by
    intro x hx
    rw [adj] at hx
    rcases List.mem_cons.1 hx with rfl | hx
    · have := hl a (by simp); have := hl b (by simp); omega
    · exact adj_le m (b :: r) (fun y hy => hl y (List.mem_cons_of_mem _ hy)) x hx
theorem pairUp_length : ∀ (n : Nat) (l : List Nat), l.length = 2 * n → (pairUp l).length = n
  | 0, [], _ => rfl
  | n + 1, a :: b :: r, h => by rw [pairUp, List.length_cons, pairUp_length n r (by simp only [List.length_cons] at h; omega)]
theorem pairUp_le (m : Nat) : ∀ (l : List Nat), (∀ x ∈ l, x ≤ m) → ∀ x ∈ pairUp l, x ≤ 2 * m
  | [], _ => by simp [pairUp]
  | [a], _ => by simp [pairUp]
  | a :: b :: r, hl => by
    intro x hx
    rw [pairUp] at hx
    rcases List.mem_cons.1 hx with rfl | hx
    · have := hl a (by simp); have := hl b (by simp); omega
    · exact pairUp_le m r (fun y hy => hl y (by simp [hy])) x hx
theorem pairUp_sum : ∀ (n : Nat) (l : List Nat), l.length = 2 * n → (pairUp l).sum = l.sum
  | 0, [], _ => rfl
  | n + 1, a :: b :: r, h => by
    rw [pairUp, List.sum_cons, List.sum_cons, List.sum_cons, pairUp_sum n r (by simp only [List.length_cons] at h; omega), Nat.add_assoc]
def bitsOf : Nat → Nat → List Nat
  | 0, _ => []
  | n + 1, x => (x % 2) :: bitsOf n (x / 2)
theorem bitsOf_length : ∀ n x, (bitsOf n x).length = n
  | 0, _ => rfl
  | n + 1, x => by rw [bitsOf, List.length_cons, bitsOf_length]
theorem bitsOf_le : ∀ n x, ∀ y ∈ bitsOf n x, y ≤ 1
  | 0, _ => by simp [bitsOf]
  | n + 1, x => by
    intro y hy
    rw [bitsOf] at hy
    rcases List.mem_cons.1 hy with rfl | hy
    · omega
    · exact bitsOf_le n _ y hy
theorem num_bitsOf : ∀ n x, x < 2 ^ n → num 1 (bitsOf n x) = x
  | 0, x, h => by
    have : x = 0 := by simpa using h
    subst this; rfl
  | n + 1, x, h => by
    rw [bitsOf, num, num_bitsOf n (x / 2) (by rw [Nat.pow_succ] at h; omega)]
    omega
theorem bitsOf_sum : ∀ n x, (bitsOf n x).sum = (List.range n).countP fun j => x.testBit j
  | 0, _ => rfl
  | n + 1, x => by
    rw [bitsOf, List.sum_cons, bitsOf_sum n (x / 2), List.range_succ_eq_map, List.countP_cons, List.countP_map]
    have e : ((fun j => x.testBit j) ∘ Nat.succ) = fun j => (x / 2).testBit j := by
      funext j
      simp only [Function.comp]
      rw [Nat.succ_eq_add_one, Nat.testBit_succ]
    rw [e]
    by_cases h : x % 2 = 1
    · rw [h, if_pos (by simp [Nat.testBit_zero, h])]
      omega
    · rw [if_neg (by simp [Nat.testBit_zero, h])]
      omega
theorem bits_and_nat (a b : Nat) (ha : a < 18446744073709551616) (hb : b < 18446744073709551616) : Go.bits .and .u64 (a : Int) (b : Int) = ((a &&& b : Nat) : Int) := by
  have h := bits_and_bv (BitVec.ofNat 64 a) (BitVec.ofNat 64 b)
  rw [BitVec.toNat_and, BitVec.toNat_ofNat, BitVec.toNat_ofNat, Nat.mod_eq_of_lt ha, Nat.mod_eq_of_lt hb] at h
  exact h
theorem bits_and_127 (s : Nat) (h : s < 9223372036854775808) : Go.bits .and .i64 (wrap64 (s : Int)) 127 = ((s % 128 : Nat) : Int) := by
  rw [wrap_id (by omega) (by omega)]
  show IntKind.i64.wrap ((BitVec.ofInt 64 (s : Int) &&& BitVec.ofInt 64 127).toNat : Int) = _
  have e : (BitVec.ofInt 64 (s : Int) &&& BitVec.ofInt 64 127).toNat = s % 128 := by
    rw [BitVec.ofInt_natCast, show BitVec.ofInt 64 127 = BitVec.ofNat 64 127 from rfl, BitVec.toNat_and, BitVec.toNat_ofNat, BitVec.toNat_ofNat, Nat.mod_eq_of_lt (show s < 2 ^ 64 by omega), Nat.mod_eq_of_lt (show 127 < 2 ^ 64 by decide), show (127 : Nat) = 2 ^ 7 - 1 from rfl, Nat.and_two_pow_sub_one_eq_mod]
  rw [e]
  simp only [i64_w]
  exact wrap_id (x := ((s % 128 : Nat) : Int)) (by omega) (by omega)
theorem uwrap_id (n : Nat) (h : n < 18446744073709551616) : IntKind.u64.wrap (n : Int) = (n : Int) := by
  rw [wrap_u64_]
  omega
theorem num_lt (w : Nat) : ∀ (l : List Nat), (∀ x ∈ l, x < 2 ^ w) → num w l < 2 ^ (w * l.length)
  | [], _ => by simp [num]
  | a :: r, hl => by
    have ha := hl a (by simp)
    have ih := num_lt w r (fun x hx => hl x (List.mem_cons_of_mem _ hx))
    rw [num, List.length_cons, Nat.mul_add, Nat.mul_one, Nat.add_comm (w * r.length) w, Nat.pow_add]
    calc a + 2 ^ w * num w r < 2 ^ w + 2 ^ w * num w r := by omega
      _ = 2 ^ w * (num w r + 1) := by rw [Nat.mul_add, Nat.mul_one, Nat.add_comm]
      _ ≤ 2 ^ w * 2 ^ (w * r.length) := Nat.mul_le_mul_left _ ih
theorem low_sum (p : List Nat) (hp : p.length = 8) (hl : ∀ x ∈ p, x ≤ 8) (y s1 s2 s3 : Nat) (hy : y = num 8 p) (h1 : s1 = y + y / 256) (h2 : s2 = s1 + s1 / 65536) (h3 : s3 = s2 + s2 / 4294967296) : s1 < 9223372036854775808 ∧ s2 < 9223372036854775808 ∧ s3 < 9223372036854775808 ∧ s3 % 128 = p.sum := by
  match p, hp with
  | [a, b, c, d, e, f, g, h], _ =>
    have := hl a (by simp); have := hl b (by simp); have := hl c (by simp); have := hl d (by simp)
    have := hl e (by simp); have := hl f (by simp); have := hl g (by simp); have := hl h (by simp)
    have hy2 : y = a + 256 * (b + 256 * (c + 256 * (d + 256 * (e + 256 * (f + 256 * (g + 256 * (h + 256 * 0))))))) := hy
    have hs : [a, b, c, d, e, f, g, h].sum = a + (b + (c + (d + (e + (f + (g + (h + 0))))))) := rfl
    rw [hs]
    clear hs
    have q1 : y / 256 = b + 256 * (c + 256 * (d + 256 * (e + 256 * (f + 256 * (g + 256 * h))))) := by omega
    have r1 : s1 = (a + b) + 256 * ((b + c) + 256 * ((c + d) + 256 * ((d + e) + 256 * ((e + f) + 256 * ((f + g) + 256 * ((g + h) + 256 * h)))))) := by omega
    clear h1 q1 hy2 hy
    have q2 : s1 / 65536 = (c + d) + 256 * ((d + e) + 256 * ((e + f) + 256 * ((f + g) + 256 * ((g + h) + 256 * h)))) := by omega
    have r2 : s2 = (a + b + c + d) + 256 * ((b + c + d + e) + 256 * ((c + d + e + f) + 256 * ((d + e + f + g) + 256 * ((e + f + g + h) + 256 * ((f + g + h) + 256 * ((g + h) + 256 * h)))))) := by omega
    have z1 : s1 < 9223372036854775808 := by omega
    clear h2 q2 r1
    have q3 : s2 / 4294967296 = (e + f + g + h) + 256 * ((f + g + h) + 256 * ((g + h) + 256 * h)) := by omega
    have r3 : s3 = (a + b + c + d + e + f + g + h) + 256 * ((b + c + d + e + f + g + h) + 256 * ((c + d + e + f + g + h) + 256 * ((d + e + f + g + h) + 256 * ((e + f + g + h) + 256 * ((f + g + h) + 256 * ((g + h) + 256 * h)))))) := by omega
    have z2 : s2 < 9223372036854775808 := by omega
    clear h3 q3 r2
    refine ⟨z1, z2, by omega, by omega⟩
theorem onesCount (x : Nat) (hx : x < 18446744073709551616) : bits_OnesCount64.f (x : Int) = some (((List.range 64).countP fun j => x.testBit j : Nat) : Int) := by
  have hb := bitsOf_length 64 x
  have hb1 := bitsOf_le 64 x
  have hb2 := num_bitsOf 64 x hx
  generalize hl : bitsOf 64 x = l at hb hb1 hb2
  have l1 : (pairUp l).length = 32 := pairUp_length 32 l hb
  have m1 := pairUp_le 1 l hb1
  have l2 : (pairUp (pairUp l)).length = 16 := pairUp_length 16 _ l1
  have m2 := pairUp_le 2 _ m1
  have l3 : (pairUp (pairUp (pairUp l))).length = 8 := pairUp_length 8 _ l2
  have m3 := pairUp_le 4 _ m2
  have b1 : num 2 (pairUp l) < 18446744073709551616 := by
    have := num_lt 2 (pairUp l) (fun z hz => by have := m1 z hz; omega)
    rw [l1] at this
    exact this
  have b2 : num 4 (pairUp (pairUp l)) < 18446744073709551616 := by
    have := num_lt 4 (pairUp (pairUp l)) (fun z hz => by have := m2 z hz; omega)
    rw [l2] at this
    exact this
  have v1 := level 1 32 l hb (fun z hz => by have := hb1 z hz; omega)
  have v2 := level 2 16 _ l1 (fun z hz => by have := m1 z hz; omega)
  have k1 : maskN 1 32 = 6148914691236517205 := by decide +kernel
  have k2 : maskN 2 16 = 3689348814741910323 := by decide +kernel
  have k3 : maskN 4 8 = 1085102592571150095 := by decide +kernel
  rw [hb2, k1, show 2 ^ 1 = 2 from rfl, show 2 * 1 = 2 from rfl] at v1
  rw [k2, show 2 ^ 2 = 4 from rfl, show 2 * 2 = 4 from rfl] at v2
  have hadj : ∀ z ∈ adj (pairUp (pairUp l)), z < 2 ^ 4 := fun z hz => by have := adj_le 4 _ m2 z hz; omega
  have v3 := land_evs 4 8 (adj (pairUp (pairUp l))) (by rw [adj_length, l2]) hadj
  rw [evs_adj 8 _ l2, k3, num_adj 4 _ (fun z hz => by have := m2 z hz; omega), show 2 ^ 4 = 16 from rfl, show 2 * 4 = 8 from rfl] at v3
  have ba : num 4 (pairUp (pairUp l)) / 16 + num 4 (pairUp (pairUp l)) < 18446744073709551616 := by
    have := num_lt 4 _ hadj
    rw [adj_length, l2, num_adj 4 _ (fun z hz => by have := m2 z hz; omega)] at this
    exact this
  have e1 : IntKind.u64.wrap ((Go.bits .and .u64 ((x : Int) / 2) 6148914691236517205) + (Go.bits .and .u64 (x : Int) 6148914691236517205)) = (num 2 (pairUp l) : Int) := by
    rw [show (x : Int) / 2 = ((x / 2 : Nat) : Int) by omega, show (6148914691236517205 : Int) = ((6148914691236517205 : Nat) : Int) from rfl, bits_and_nat _ _ (by omega) (by decide), bits_and_nat _ _ hx (by decide), ← Int.natCast_add, v1]
    exact uwrap_id _ b1
  generalize num 2 (pairUp l) = n1 at *
  have e2 : IntKind.u64.wrap ((Go.bits .and .u64 ((n1 : Int) / 4) 3689348814741910323) + (Go.bits .and .u64 (n1 : Int) 3689348814741910323)) = (num 4 (pairUp (pairUp l)) : Int) := by
    rw [show (n1 : Int) / 4 = ((n1 / 4 : Nat) : Int) by omega, show (3689348814741910323 : Int) = ((3689348814741910323 : Nat) : Int) from rfl, bits_and_nat _ _ (by omega) (by decide), bits_and_nat _ _ b1 (by decide), ← Int.natCast_add, v2]
    exact uwrap_id _ b2
  generalize num 4 (pairUp (pairUp l)) = n2 at *
  have e3 : Go.bits .and .u64 (IntKind.u64.wrap (((n2 : Int) / 16) + (n2 : Int))) 1085102592571150095 = (num 8 (pairUp (pairUp (pairUp l))) : Int) := by
    rw [show (n2 : Int) / 16 = ((n2 / 16 : Nat) : Int) by omega, ← Int.natCast_add, uwrap_id _ ba, show (1085102592571150095 : Int) = ((1085102592571150095 : Nat) : Int) from rfl, bits_and_nat _ _ ba (by decide), v3]
  obtain ⟨c1, c2, c3, c4⟩ := low_sum _ l3 (fun z hz => by have := m3 z hz; omega) _ _ _ _ rfl rfl rfl rfl
  generalize num 8 (pairUp (pairUp (pairUp l))) = y at *
  unfold bits_OnesCount64.f
  rw [e1, e2, e3, show (y : Int) + (y : Int) / 256 = ((y + y / 256 : Nat) : Int) by omega, uwrap_id _ (by omega)]
  generalize y + y / 256 = s1 at *
  rw [show (s1 : Int) + (s1 : Int) / 65536 = ((s1 + s1 / 65536 : Nat) : Int) by omega, uwrap_id _ (by omega)]
  generalize s1 + s1 / 65536 = s2 at *
  rw [show (s2 : Int) + (s2 : Int) / 4294967296 = ((s2 + s2 / 4294967296 : Nat) : Int) by omega, uwrap_id _ (by omega), bits_and_127 _ c3, c4, pairUp_sum 8 _ l2, pairUp_sum 16 _ l1, pairUp_sum 32 _ hb, ← hl, bitsOf_sum]

/-- How many numbers lie in rows. -/
def lenAll : List (List Int) → Nat
  | [] => 0
  | y :: ys => y.length + lenAll ys
theorem concat_l1 (xs : List (List Int)) (hn : xs.length ≤ 1048576) : ∀ (zs : List (List Int)) (i : Nat) (acc : List Int), xs.drop i = zs → acc.length + lenAll zs < 17592186044416 → Ev (fun k => slices_Concat_int_int.l1 k acc xs (xs.length : Int) (i : Int)) (acc ++ zs.flatten) := by
  intro zs
  induction zs with
  | nil =>
    intro i acc h hl
    have := at_end h
    refine Ev.step (fun k => by rw [slices_Concat_int_int.l1]) ?_
    exact ev_neg (by omega) (ev_eq (Ev.now _) (by simp))
  | cons z zs ih =>
    intro i acc h hl
    obtain ⟨hlt, hz, h2, _⟩ := at_drop h
    have hr : rd_L2 xs (i : Int) = z := getD_at hz
    simp only [lenAll] at hl
    refine Ev.step (fun k => by rw [slices_Concat_int_int.l1]) ?_
    refine ev_pos (by omega) (ev_pos (by omega) (ev_pos (by omega) ?_))
    rw [hr, wrap_id (x := (i : Int) + 1) (by omega) (by omega)]
    refine ev_pos (by omega) ?_
    refine ev_eq (ih (i + 1) (acc ++ z) h2 (by rw [List.length_append]; omega)) (by simp)
theorem concat_l0 (xs : List (List Int)) (hn : xs.length ≤ 1048576) (hp : 0 < lenAll xs) (hm : lenAll xs < 17592186044416) : ∀ (zs : List (List Int)) (i : Nat) (s : Nat), xs.drop i = zs → s + lenAll zs = lenAll xs → Ev (fun k => slices_Concat_int_int.l0 k xs (s : Int) xs (xs.length : Int) (i : Int)) xs.flatten := by
  intro zs
  induction zs with
  | nil =>
    intro i s h hs
    have := at_end h
    simp only [lenAll] at hs
    refine Ev.step (fun k => by rw [slices_Concat_int_int.l0]) ?_
    refine ev_neg (by omega) (ev_bind0 (a := ([] : List Int)) ?_ ?_)
    · unfold slices_Grow_int_int.f
      rw [if_pos (show ([] : List Int).length = 0 from rfl), if_pos (by omega), if_pos (by omega)]
    · simpa using concat_l1 xs hn xs 0 [] rfl (by simp only [List.length_nil]; omega)
  | cons z zs ih =>
    intro i s h hs
    obtain ⟨hlt, hz, h2, _⟩ := at_drop h
    have hr : rd_L2 xs (i : Int) = z := getD_at hz
    simp only [lenAll] at hs
    refine Ev.step (fun k => by rw [slices_Concat_int_int.l0]) ?_
    refine ev_pos (by omega) (ev_pos (by omega) (ev_pos (by omega) ?_))
    rw [hr, wrap_id (x := (i : Int) + 1) (by omega) (by omega), wrap_id (x := (s : Int) + (z.length : Int)) (by omega) (by omega)]
    refine ev_neg (by omega) ?_
    have := ih (i + 1) (s + z.length) h2 (by omega)
    rw [show ((s + z.length : Nat) : Int) = (s : Int) + (z.length : Int) by omega] at this
    exact this
theorem concat_ev (xs : List (List Int)) (hn : xs.length ≤ 1048576) (hp : 0 < lenAll xs) (hm : lenAll xs < 17592186044416) : Ev (fun k => slices_Concat_int_int.f k xs) xs.flatten := by
  unfold slices_Concat_int_int.f
  exact concat_l0 xs hn hp hm xs 0 0 rfl (by omega)
theorem shape_app : ∀ (f g : List Int) (n : Nat), shape (f ++ g) n = (shape f n).bind (shape g) := by
  intro f
  induction f with
  | nil => intro g n; rfl
  | cons s r ih =>
    intro g n
    rw [List.cons_append]
    unfold shape
    split
    · exact ih g _
    · split
      · split
        · exact ih g _
        · rfl
      · split
        · split
          · exact ih g _
          · rfl
        · rfl
theorem isFormula_not {f : List Int} (h : isFormula (f ++ [-1]) = true) : isFormula f = true := by
  unfold isFormula at h ⊢
  rw [Bool.and_eq_true, decide_eq_true_eq, decide_eq_true_eq, shape_app] at h
  obtain ⟨h1, h2⟩ := h
  rw [List.length_append, List.length_singleton] at h2
  rw [Bool.and_eq_true, decide_eq_true_eq, decide_eq_true_eq]
  refine ⟨?_, by omega⟩
  cases hs : shape f 0 with
  | none => rw [hs] at h1; exact absurd h1 (by simp)
  | some n =>
    rw [hs, Option.bind_some] at h1
    simp only [shape] at h1
    rw [if_neg (by omega), if_pos trivial] at h1
    split at h1
    · exact h1
    · exact absurd h1 (by simp)
def notOf (f : List Int) : List Int := if isFormula (f ++ [-1]) then f ++ [-1] else []
def joinOf (f g : List Int) (o : Int) : List Int := if isFormula f = true ∧ isFormula g = true ∧ (-4 ≤ o ∧ o ≤ -2) ∧ isFormula (f ++ g ++ [o]) = true then f ++ g ++ [o] else []
theorem isFormulaI_ev (f : List Int) (hn : f.length ≤ 9223372036854775807) : Ev (fun k => impl_IsFormula.f k f) (isFormula f) := by
  obtain ⟨bv, hr, _⟩ := rowsOf_ev f hn
  unfold impl_IsFormula.f
  exact Ev.bind hr (Ev.now _)
theorem notOf_impl (f : List Int) (hn : f.length ≤ 1048576) : Ev (fun k => impl_NotOf.f k f) (notOf f) := by
  have hc := concat_ev [f, [-1]] (by simp) (by simp only [lenAll, List.length_cons, List.length_nil]; omega) (by simp only [lenAll, List.length_cons, List.length_nil]; omega)
  rw [show ([f, [-1]] : List (List Int)).flatten = f ++ [-1] by simp] at hc
  unfold impl_NotOf.f notOf
  refine Ev.bind hc (Ev.bind (isFormulaI_ev f (by omega)) (ev_ite (fun e => ?_) (fun e => ev_eq (Ev.now _) ?_)))
  · refine Ev.bind (isFormulaI_ev (f ++ [-1]) (by first | (simp; done) | (simp; omega))) (ev_ite (fun e2 => ev_eq (Ev.now _) (by rw [if_pos e2])) (fun e2 => ev_eq (Ev.now _) (by rw [if_neg e2])))
  · rw [if_neg (fun h => e (isFormula_not h))]
theorem notOf_length (f : List Int) (hn : f.length ≤ 1048576) : (notOf f).length ≤ 1048577 := by
  unfold notOf
  split
  · simp; omega
  · simp
theorem joinOf_length (f g : List Int) (o : Int) (hf : f.length ≤ 1048576) (hg : g.length ≤ 1048576) : (joinOf f g o).length ≤ 2097153 := by
  unfold joinOf
  split
  · simp; omega
  · simp
theorem notOf_spec (f : List Int) (hn : f.length ≤ 1048576) : Ev (fun k => spec_NotOf.f k f) (notOf f) := by
  unfold spec_NotOf.f
  refine ev_bind0 (a := ([] : List Int)) rfl (ev_pos (by simp only [List.length_nil]; omega) (ev_bind0 (a := f) rfl (ev_pos (by omega) (ev_bind0 (a := f ++ [-1]) rfl ?_))))
  unfold notOf
  exact Ev.bind (isFormula_spec (f ++ [-1]) (by first | (simp; done) | (simp; omega))) (ev_ite (fun e2 => ev_eq (Ev.now _) (by rw [if_pos e2])) (fun e2 => ev_eq (Ev.now _) (by rw [if_neg e2])))
theorem join_spec (f g : List Int) (o : Int) (hf : f.length ≤ 1048576) (hg : g.length ≤ 1048576) : Ev (fun k => spec_Join.f k f g o) (joinOf f g o) := by
  unfold spec_Join.f
  refine ev_bind0 (a := ([] : List Int)) rfl (ev_pos (by simp only [List.length_nil]; omega) (ev_bind0 (a := f) rfl (ev_pos (by omega) (ev_bind0 (a := f ++ g) rfl (ev_pos (by first | (simp; done) | (simp; omega)) (ev_bind0 (a := f ++ g ++ [o]) rfl ?_))))))
  unfold joinOf
  refine Ev.bind (isFormula_spec f (by omega)) (ev_ite (fun e1 => ?_) (fun e => ev_eq (Ev.now _) (by rw [if_neg (fun h => e h.1)])))
  refine Ev.bind (isFormula_spec g (by omega)) (ev_ite (fun e2 => ?_) (fun e => ev_eq (Ev.now _) (by rw [if_neg (fun h => e h.2.1)])))
  refine ev_bind0 (l1In_eq _ _ _) (ev_ite (fun e3 => ?_) (fun e => ev_eq (Ev.now _) (by rw [if_neg (fun h => e (decide_eq_true h.2.2.1))])))
  exact Ev.bind (isFormula_spec (f ++ g ++ [o]) (by first | (simp; done) | (simp; omega))) (ev_ite (fun e4 => ev_eq (Ev.now _) (by rw [if_pos ⟨e1, e2, of_decide_eq_true e3, e4⟩])) (fun e => ev_eq (Ev.now _) (by rw [if_neg (fun h => e h.2.2.2)])))

theorem evalS_app {β : Type} (lit : Int → β) (no : β → β) (op : Int → β → β → β) : ∀ (f g : List Int) (st : List β), evalS lit no op (f ++ g) st = (evalS lit no op f st).bind (evalS lit no op g) := by
  intro f
  induction f with
  | nil => intro g st; rfl
  | cons s r ih =>
    intro g st
    rw [List.cons_append]
    unfold evalS
    split
    · exact ih g _
    · split
      · split
        · exact ih g _
        · rfl
      · split
        · split
          · exact ih g _
          · rfl
        · rfl
theorem evalS_tail {β : Type} (lit : Int → β) (no : β → β) (op : Int → β → β → β) (t : List β) : ∀ (f : List Int) (st r : List β), evalS lit no op f st = some r → evalS lit no op f (st ++ t) = some (r ++ t) := by
  intro f
  induction f with
  | nil => intro st r h; simp only [evalS, Option.some.injEq] at h ⊢; rw [h]
  | cons s f ih =>
    intro st r h
    unfold evalS at h ⊢
    split at h
    · rename_i h0
      rw [if_pos h0]
      exact ih (lit s :: st) r h
    · rename_i h0
      rw [if_neg h0]
      split at h
      · rename_i h1
        rw [if_pos h1]
        cases st with
        | nil => exact absurd h (by simp)
        | cons x st2 => exact ih (no x :: st2) r h
      · rename_i h1
        rw [if_neg h1]
        split at h
        · rename_i h2
          rw [if_pos h2]
          match st, h with
          | [], h => exact absurd h (by simp)
          | [x], h => exact absurd h (by simp)
          | b :: a :: st2, h => exact ih (op s a b :: st2) r h
        · exact absurd h (by simp)
theorem evalS_one {β : Type} (lit : Int → β) (no : β → β) (op : Int → β → β → β) (f : List Int) (hf : isFormula f = true) : ∃ x, evalS lit no op f [] = some [x] := by
  simp only [isFormula, Bool.and_eq_true, decide_eq_true_eq] at hf
  have hs := evalS_shape lit no op f []
  rw [show shape f ([] : List β).length = some 1 from hf.1] at hs
  cases hE : evalS lit no op f [] with
  | none => rw [hE] at hs; simp at hs
  | some st =>
    rw [hE] at hs
    match st, hs with
    | [x], _ => exact ⟨x, rfl⟩
theorem value_notOf (v : Nat → Bool) (f : List Int) (h : 0 < (notOf f).length) : value v (notOf f) = !(value v f) := by
  have e : isFormula (f ++ [-1]) = true := by
    by_cases e : isFormula (f ++ [-1]) = true
    · exact e
    · unfold notOf at h; rw [if_neg e] at h; simp at h
  have hn : notOf f = f ++ [-1] := by unfold notOf; rw [if_pos e]
  have hf := isFormula_not e
  obtain ⟨x, hx⟩ := evalS_one (fun s => v s.toNat) (fun x => !x) opB f hf
  have h2 : evalS (fun s => v s.toNat) (fun x => !x) opB (f ++ [-1]) [] = some [!x] := by
    rw [evalS_app, hx]; rfl
  rw [hn]
  simp only [value, valB, e, hf, hx, h2, Bool.true_and]
theorem value_joinOf (v : Nat → Bool) (f g : List Int) (o : Int) (h : 0 < (joinOf f g o).length) : value v (joinOf f g o) = opB o (value v f) (value v g) ∧ (-4 ≤ o ∧ o ≤ -2) := by
  have e : isFormula f = true ∧ isFormula g = true ∧ (-4 ≤ o ∧ o ≤ -2) ∧ isFormula (f ++ g ++ [o]) = true := by
    by_cases e : isFormula f = true ∧ isFormula g = true ∧ (-4 ≤ o ∧ o ≤ -2) ∧ isFormula (f ++ g ++ [o]) = true
    · exact e
    · unfold joinOf at h; rw [if_neg e] at h; simp at h
  have hj : joinOf f g o = f ++ g ++ [o] := by unfold joinOf; rw [if_pos e]
  obtain ⟨hf, hg, ho, hfg⟩ := e
  obtain ⟨x, hx⟩ := evalS_one (fun s => v s.toNat) (fun x => !x) opB f hf
  obtain ⟨y, hy⟩ := evalS_one (fun s => v s.toNat) (fun x => !x) opB g hg
  have h2 : evalS (fun s => v s.toNat) (fun x => !x) opB (f ++ g ++ [o]) [] = some [opB o x y] := by
    rw [evalS_app, evalS_app, hx, Option.bind_some, show ([x] : List Bool) = [] ++ [x] from rfl, evalS_tail _ _ _ [x] g [] [y] hy, Option.bind_some]
    unfold evalS
    rw [if_neg (by omega), if_neg (by omega), if_pos ho]
    rfl
  rw [hj]
  refine ⟨?_, ho⟩
  simp only [value, valB, hfg, hf, hg, hx, hy, h2, Bool.true_and]
/-- Letters that a formula has not do not matter. -/
theorem evalS_letters {β : Type} (lit lit2 : Int → β) (no : β → β) (op : Int → β → β → β) : ∀ (f : List Int) (st : List β), (∀ s ∈ f, 0 ≤ s → lit s = lit2 s) → evalS lit no op f st = evalS lit2 no op f st := by
  intro f
  induction f with
  | nil => intro st _; rfl
  | cons s f ih =>
    intro st h
    have hr : ∀ s ∈ f, 0 ≤ s → lit s = lit2 s := fun x hx => h x (List.mem_cons_of_mem _ hx)
    unfold evalS
    split
    · rename_i h0
      rw [h s List.mem_cons_self h0.1]
      exact ih _ hr
    · split
      · split
        · exact ih _ hr
        · rfl
      · split
        · split
          · exact ih _ hr
          · rfl
        · rfl
theorem evalS_inv {β : Type} (lit : Int → β) (no : β → β) (op : Int → β → β → β) (p : β → Prop) (h0 : ∀ s, 0 ≤ s → s ≤ 5 → p (lit s)) (h1 : ∀ x, p x → p (no x)) (h2 : ∀ s a b, -4 ≤ s → s ≤ -2 → p a → p b → p (op s a b)) : ∀ (f : List Int) (st r : List β), (∀ x ∈ st, p x) → evalS lit no op f st = some r → ∀ x ∈ r, p x := by
  intro f
  induction f with
  | nil => intro st r hp h; simp only [evalS, Option.some.injEq] at h; rw [← h]; exact hp
  | cons s f ih =>
    intro st r hp h
    unfold evalS at h
    split at h
    · rename_i k0
      exact ih (lit s :: st) r (fun x hx => (List.mem_cons.1 hx).elim (fun e => e ▸ h0 s k0.1 k0.2) (hp x)) h
    · split at h
      · cases st with
        | nil => exact absurd h (by simp)
        | cons x st2 => exact ih (no x :: st2) r (fun z hz => (List.mem_cons.1 hz).elim (fun e => e ▸ h1 x (hp x List.mem_cons_self)) (fun e => hp z (List.mem_cons_of_mem _ e))) h
      · split at h
        · rename_i k2
          match st, hp, h with
          | [], _, h => exact absurd h (by simp)
          | [x], _, h => exact absurd h (by simp)
          | b :: a :: st2, hp, h => exact ih (op s a b :: st2) r (fun z hz => (List.mem_cons.1 hz).elim (fun e => e ▸ h2 s a b k2.1 k2.2 (hp a (by simp)) (hp b (by simp))) (fun e => hp z (by simp [e]))) h
        · exact absurd h (by simp)
theorem l10Draw_ok (b : List Int) (hb : b.length ≤ 1048576) : ∀ (d : Nat), d ≤ 3 → ∀ (i h : Int), Cur b i → ∃ f i2 h2, Ev (fun k => spec_l10Draw.f k b i h (d : Int)) (f, i2, h2) ∧ 1 ≤ f.length ∧ f.length < 2 ^ (d + 1) ∧ Cur b i2 := by
  have lit : ∀ (a : Int) (i h : Int), Cur b i → ∃ f i2 h2, Ev (fun k => spec_l10Draw.j0 k a true b i h) (f, i2, h2) ∧ f.length = 1 ∧ Cur b i2 := by
    intro a i h hc
    obtain ⟨r, i2, h2, e, _, _, _, hc2⟩ := l1Below_ok b i h 4 hc hb
    refine ⟨[r], i2, h2, ?_, rfl, hc2⟩
    refine Ev.step (fun k => by rw [spec_l10Draw.j0]) ?_
    exact ev_pos rfl (ev_bind0 e (Ev.now _))
  intro d
  induction d with
  | zero =>
    intro _ i h hc
    obtain ⟨f, i2, h2, e, hl, hc2⟩ := lit 0 i h hc
    refine ⟨f, i2, h2, ?_, by omega, by omega, hc2⟩
    refine Ev.step (fun k => by rw [spec_l10Draw.f]) ?_
    exact ev_pos rfl e
  | succ d ih =>
    intro hd i h hc
    obtain ⟨r1, i1, h1, e1, hc1⟩ := l1Once_ok b i h 4 hc hb
    have hw : wrap64 (((d + 1 : Nat) : Int) - 1) = (d : Int) := by rw [wrap_id (by omega) (by omega)]; omega
    have hp : 2 ^ (d + 1 + 1) = 2 * 2 ^ (d + 1) := by rw [Nat.pow_succ 2 (d + 1)]; omega
    have hb2 : 2 ^ (d + 1) ≤ 2 ^ 4 := Nat.pow_le_pow_right (by decide) (show d + 1 ≤ 4 by omega)
    have hb3 : 1 ≤ 2 ^ (d + 1) := Nat.one_le_two_pow
    generalize 2 ^ (d + 1) = P at hp hb2 hb3 ih
    rw [hp]
    cases r1 with
    | true =>
      obtain ⟨f, i2, h2, e, hl, hc2⟩ := lit ((d + 1 : Nat) : Int) i1 h1 hc1
      refine ⟨f, i2, h2, ?_, by omega, by omega, hc2⟩
      refine Ev.step (fun k => by rw [spec_l10Draw.f]) ?_
      exact ev_neg (by omega) (ev_bind0 e1 e)
    | false =>
      obtain ⟨r2, i2, h2, e2, hc2⟩ := l1Once_ok b i1 h1 4 hc1 hb
      obtain ⟨f, i3, h3, e3, hl1, hl2, hc3⟩ := ih (by omega) i2 h2 hc2
      cases r2 with
      | true =>
        refine ⟨f ++ [-1], i3, h3, ?_, by simp, by rw [List.length_append, List.length_singleton]; omega, hc3⟩
        refine Ev.step (fun k => by rw [spec_l10Draw.f]) ?_
        refine ev_neg (by omega) (ev_bind0 e1 ?_)
        refine Ev.step (fun k => by rw [spec_l10Draw.j0]) ?_
        rw [hw]
        exact ev_neg (by simp) (ev_bind0 e2 (ev_pos rfl (Ev.bind e3 (ev_pos (by dsimp only; omega) (Ev.now _)))))
      | false =>
        obtain ⟨g, i4, h4, e4, hg1, hg2, hc4⟩ := ih (by omega) i3 h3 hc3
        obtain ⟨r5, i5, h5, e5, _, _, _, hc5⟩ := l1Below_ok b i4 h4 3 hc4 hb
        refine ⟨f ++ g ++ [wrap64 ((-2) - r5)], i5, h5, ?_, by rw [List.length_append, List.length_append, List.length_singleton]; omega, by rw [List.length_append, List.length_append, List.length_singleton]; omega, hc5⟩
        refine Ev.step (fun k => by rw [spec_l10Draw.f]) ?_
        refine ev_neg (by omega) (ev_bind0 e1 ?_)
        refine Ev.step (fun k => by rw [spec_l10Draw.j0]) ?_
        rw [hw]
        exact ev_neg (by simp) (ev_bind0 e2 (ev_neg (by simp) (Ev.bind e3 (Ev.bind e4 (ev_pos (by dsimp only; omega) (ev_bind0 rfl (ev_bind0 e5 (ev_pos (by rw [List.length_append]; dsimp only; omega) (Ev.now _)))))))))
theorem l10Any_ok (b : List Int) (hb : b.length ≤ 1048576) (i h : Int) (hc : Cur b i) : ∃ f i2 h2, Ev (fun k => spec_l10Any.f k b i h) (f, i2, h2) ∧ f.length ≤ 15 ∧ Cur b i2 := by
  obtain ⟨f, i1, h1, e1, hl1, hl2, hc1⟩ := l10Draw_ok b hb 3 (by omega) i h hc
  have hl3 : f.length < 16 := hl2
  obtain ⟨r, i2, h2, e2, h20, h2lt, _, hc2⟩ := l1Below_ok b i1 h1 10 hc1 hb
  unfold spec_l10Any.f
  by_cases r0 : r = 0
  · obtain ⟨q, i3, h3, e3, h30, h3lt, _, hc3⟩ := l1Below_ok b i2 h2 (f.length : Int) hc2 hb
    obtain ⟨x, i4, h4, e4, _, hc4⟩ := l1Int_ok b i3 h3 [(-5), (-4), 5, 6, 9223372036854775807] hc3 hb (by decide)
    exact ⟨f.set q.toNat x, i4, h4, Ev.bind e1 (ev_bind0 e2 (ev_pos r0 (ev_bind0 e3 (ev_bind0 e4 (ev_pos h30 (ev_pos (h3lt (by omega)) (Ev.now _))))))), by rw [List.length_set]; omega, hc4⟩
  · by_cases r1 : r = 1
    · exact ⟨f.drop 1, i2, h2, Ev.bind e1 (ev_bind0 e2 (ev_neg r0 (ev_pos r1 (ev_pos (by dsimp only; omega) (Ev.now _))))), by rw [List.length_drop]; omega, hc2⟩
    · exact ⟨f, i2, h2, Ev.bind e1 (ev_bind0 e2 (ev_neg r0 (ev_neg r1 (Ev.now _)))), by omega, hc2⟩
/-- The first row from m on, of d rows, in which a formula is true. -/
def firstFrom (f : List Int) (m : Nat) : Nat → Int
  | 0 => -1
  | d + 1 => if rowVal m f = true then (m : Int) else firstFrom f (m + 1) d
def firstRow (f : List Int) : Int := firstFrom f 0 64
theorem firstFrom_none (f : List Int) : ∀ (d m : Nat), (∀ j, m ≤ j → j < m + d → rowVal j f = false) → firstFrom f m d = -1 := by
  intro d
  induction d with
  | zero => intro m _; rfl
  | succ d ih =>
    intro m h
    unfold firstFrom
    rw [if_neg (by rw [h m (by omega) (by omega)]; decide)]
    exact ih (m + 1) fun j h1 h2 => h j (by omega) (by omega)
theorem firstFrom_at (f : List Int) (k : Nat) : ∀ (d m : Nat), m ≤ k → k < m + d → rowVal k f = true → (∀ j, m ≤ j → j < k → rowVal j f = false) → firstFrom f m d = (k : Int) := by
  intro d
  induction d with
  | zero => intro m h1 h2; omega
  | succ d ih =>
    intro m h1 h2 hk h
    unfold firstFrom
    by_cases e : m = k
    · subst e
      rw [if_pos hk]
    · rw [if_neg (by rw [h m (by omega) (by omega)]; decide)]
      exact ih (m + 1) (by omega) (by omega) hk fun j h3 h4 => h j (by omega) h4
theorem firstFrom_nonneg (f : List Int) : ∀ (d m : Nat), 0 ≤ firstFrom f m d ↔ ∃ j, m ≤ j ∧ j < m + d ∧ rowVal j f = true := by
  intro d
  induction d with
  | zero => intro m; unfold firstFrom; constructor
            · intro h; omega
            · rintro ⟨j, h1, h2, _⟩; omega
  | succ d ih =>
    intro m
    unfold firstFrom
    by_cases e : rowVal m f = true
    · rw [if_pos e]
      exact ⟨fun _ => ⟨m, by omega, by omega, e⟩, fun _ => by omega⟩
    · rw [if_neg e, ih (m + 1)]
      constructor
      · rintro ⟨j, h1, h2, h3⟩; exact ⟨j, by omega, by omega, h3⟩
      · rintro ⟨j, h1, h2, h3⟩
        by_cases ej : j = m
        · subst ej; exact absurd h3 e
        · exact ⟨j, by omega, by omega, h3⟩
theorem ctz_bits (x : Nat) (h0 : x ≠ 0) (hx : x < 18446744073709551616) : Lib.ctz 64 x < 64 ∧ x.testBit (Lib.ctz 64 x) = true ∧ ∀ j, j < Lib.ctz 64 x → x.testBit j = false := by
  unfold Lib.ctz
  rw [if_neg h0]
  obtain ⟨m, hm, hk⟩ := Lib.ctzFrom_spec 64 x (by omega) hx
  generalize Lib.ctzFrom 64 x = k at hm hk
  refine ⟨hk, ?_, fun j hj => ?_⟩
  · rw [hm, Nat.mul_comm, Nat.testBit_mul_two_pow]
    simp [Nat.testBit_zero]
  · rw [hm, Nat.mul_comm, Nat.testBit_mul_two_pow]
    simp
    omega
theorem firstRow_impl (f : List Int) (hn : f.length ≤ 9223372036854775807) : Ev (fun k => impl_FirstRow.f k f) (firstRow f) := by
  obtain ⟨bv, hr, hb⟩ := rowsOf_rows f hn
  unfold impl_FirstRow.f
  refine Ev.bind hr (ev_ite (fun e => ev_ite (fun e0 => ev_eq (Ev.now _) ?_) (fun e0 => ?_)) (fun e => ev_eq (Ev.now _) ?_))
  · dsimp only at e e0
    refine (firstFrom_none f 64 0 fun j _ hj => ?_).symm
    rw [← hb e j (by omega)]
    have hz : bv.toNat = 0 := by omega
    show bv.toNat.testBit j = false
    rw [hz, Nat.zero_testBit]
  · dsimp only at e e0
    have hlt := bv.isLt
    have hz : bv.toNat ≠ 0 := by omega
    obtain ⟨hk, h1, h2⟩ := ctz_bits bv.toNat hz hlt
    refine ev_bind0 (a := ((Lib.ctz 64 bv.toNat : Nat) : Int)) ?_ (ev_eq (Ev.now _) ?_)
    · dsimp only
      unfold bits_TrailingZeros64.f
      rw [if_pos ⟨by omega, by omega⟩, Int.toNat_natCast]
    · refine (firstFrom_at f _ 64 0 (by omega) (by omega) ?_ fun j _ hj => ?_).symm
      · rw [← hb e _ hk]
        exact h1
      · rw [← hb e j (by omega)]
        exact h2 j hj
  · dsimp only at e
    have hf : isFormula f = false := by simpa using e
    exact (firstFrom_none f 64 0 fun j _ _ => rowVal_false f j hf).symm
theorem countRows_impl (f : List Int) (hn : f.length ≤ 9223372036854775807) : Ev (fun k => impl_CountRows.f k f) (countRows f : Int) := by
  obtain ⟨bv, hr, hb⟩ := rowsOf_rows f hn
  unfold impl_CountRows.f
  refine Ev.bind hr (ev_ite (fun e => ev_bind0 (onesCount bv.toNat bv.isLt) (ev_eq (Ev.now _) ?_)) (fun e => ev_eq (Ev.now _) ?_))
  · dsimp only at e
    congr 1
    unfold countRows
    refine List.countP_congr fun m hm => ?_
    rw [← hb e m (List.mem_range.1 hm)]
    exact Iff.rfl
  · dsimp only at e
    have hf : isFormula f = false := by simpa using e
    have : countRows f = 0 := by
      unfold countRows
      rw [List.countP_eq_zero]
      intro m _
      rw [rowVal_false f m hf]
      decide
    rw [this]
    rfl
theorem isAlways_impl (f : List Int) (hn : f.length ≤ 9223372036854775807) : Ev (fun k => impl_IsAlways.f k f) (decide (countRows f = 64)) := by
  obtain ⟨bv, hr, hb⟩ := rowsOf_rows f hn
  unfold impl_IsAlways.f
  refine Ev.bind hr (ev_ite (fun e => ev_eq (Ev.now _) ?_) (fun e => ev_eq (Ev.now _) ?_))
  · dsimp only at e
    dsimp only
    rw [bits_not_bv, Bool.eq_iff_iff, decide_eq_true_eq, countRows_all, beq_iff_eq]
    have hz : ((~~~bv).toNat : Int) = 0 ↔ ~~~bv = 0#64 := by
      rw [← BitVec.toNat_inj]
      simp
    rw [hz]
    constructor
    · intro h m hm
      rw [← hb e m hm]
      have : (~~~bv).getLsbD m = false := by rw [h]; simp
      simpa [hm] using this
    · intro h
      refine bv_ext64 fun m hm => ?_
      have := h m hm
      rw [← hb e m hm] at this
      simp [hm, this]
  · dsimp only at e
    have hf : isFormula f = false := by simpa using e
    have : ¬ countRows f = 64 := by
      rw [countRows_all]
      intro h
      have := h 0 (by omega)
      rw [rowVal_false f 0 hf] at this
      simp at this
    simp [this]
theorem l11List_l0 (b : List Int) (hb : b.length ≤ 1048576) : ∀ (d : Nat) (xs : List (List Int)) (i h : Int), xs.length + d ≤ 3 → (∀ y ∈ xs, y.length ≤ 15) → Cur b i → ∃ r i2 h2, Ev (fun k => spec_l11List.l0 k xs (d : Int) b i h) (r, i2, h2) ∧ r.length ≤ 3 ∧ (∀ y ∈ r, y.length ≤ 15) ∧ Cur b i2 := by
  intro d
  induction d with
  | zero =>
    intro xs i h hl hy hc
    by_cases hp : (xs.length : Int) > 0
    · obtain ⟨r1, i1, h1, e1, hc1⟩ := l1Once_ok b i h 9 hc hb
      cases r1 with
      | true =>
        obtain ⟨f, i2, h2, e2, hl2, hc2⟩ := l10Any_ok b hb i1 h1 hc1
        refine ⟨xs.set 0 f, i2, h2, ?_, by rw [List.length_set]; omega, fun y hm => ?_, hc2⟩
        · refine Ev.step (fun k => by rw [spec_l11List.l0]) ?_
          exact ev_neg (by omega) (ev_pos hp (ev_bind0 e1 (ev_pos rfl (Ev.bind e2 (ev_pos (by omega) (Ev.now _))))))
        · rcases List.mem_or_eq_of_mem_set hm with hm | rfl
          · exact hy y hm
          · exact hl2
      | false =>
        refine ⟨xs, i1, h1, ?_, by omega, hy, hc1⟩
        refine Ev.step (fun k => by rw [spec_l11List.l0]) ?_
        exact ev_neg (by omega) (ev_pos hp (ev_bind0 e1 (ev_neg (by simp) (Ev.now _))))
    · refine ⟨xs, i, h, ?_, by omega, hy, hc⟩
      refine Ev.step (fun k => by rw [spec_l11List.l0]) ?_
      exact ev_neg (by omega) (ev_neg hp (Ev.now _))
  | succ d ih =>
    intro xs i h hl hy hc
    obtain ⟨f, i1, h1, e1, _, hl1, hc1⟩ := l10Draw_ok b hb 2 (by omega) i h hc
    have hl2 : f.length < 8 := hl1
    obtain ⟨r, i2, h2, e2, hr1, hr2, hc2⟩ := ih (xs ++ [f]) i1 h1 (by rw [List.length_append, List.length_singleton]; omega) (fun y hm => by
      rcases List.mem_append.1 hm with hm | hm
      · exact hy y hm
      · rw [List.mem_singleton.1 hm]; omega) hc1
    refine ⟨r, i2, h2, ?_, hr1, hr2, hc2⟩
    refine Ev.step (fun k => by rw [spec_l11List.l0]) ?_
    rw [wrap_id (by omega) (by omega), show ((d + 1 : Nat) : Int) - 1 = (d : Int) by omega]
    exact ev_pos (by omega) (Ev.bind e1 (ev_pos (by omega) e2))
theorem l11List_ok (b : List Int) (hb : b.length ≤ 1048576) (i h : Int) (hc : Cur b i) : ∃ r i2 h2, Ev (fun k => spec_l11List.f k b i h) (r, i2, h2) ∧ r.length ≤ 3 ∧ (∀ y ∈ r, y.length ≤ 15) ∧ Cur b i2 := by
  obtain ⟨q, i1, h1, e1, h0, hlt, _, hc1⟩ := l1Below_ok b i h 4 hc hb
  have := hlt (by omega)
  obtain ⟨r, i2, h2, e2, hr1, hr2, hc2⟩ := l11List_l0 b hb q.toNat [] i1 h1 (by rw [List.length_nil]; omega) (by simp) hc1
  rw [show (q.toNat : Int) = q by omega] at e2
  unfold spec_l11List.f
  exact ⟨r, i2, h2, ev_bind0 e1 e2, hr1, hr2, hc2⟩
theorem drawFollows_ok (b : List Int) (hb : b.length ≤ 1048576) : ∃ l f, Ev (fun k => spec_DrawFollows.f k b) (l, f) ∧ l.length ≤ 3 ∧ (∀ y ∈ l, y.length ≤ 15) ∧ f.length ≤ 15 := by
  obtain ⟨h, e0, hc⟩ := l1New_ok b hb
  obtain ⟨l, i1, h1, e1, hl1, hy, hc1⟩ := l11List_ok b hb 0 h hc
  obtain ⟨f, i2, h2, e2, hl2, _⟩ := l10Any_ok b hb i1 h1 hc1
  unfold spec_DrawFollows.f
  exact ⟨l, f, Ev.bind e0 (Ev.bind e1 (Ev.bind e2 (Ev.now _))), hl1, hy, hl2⟩
theorem notOf_len (f : List Int) : (notOf f).length ≤ f.length + 1 := by
  unfold notOf
  split
  · rw [List.length_append, List.length_singleton]; omega
  · rw [List.length_nil]; omega
theorem joinOf_len (f g : List Int) (o : Int) : (joinOf f g o).length ≤ f.length + g.length + 1 := by
  unfold joinOf
  split
  · rw [List.length_append, List.length_append, List.length_singleton]; omega
  · rw [List.length_nil]; omega
theorem drawIsAlways_ok (b : List Int) (hb : b.length ≤ 1048576) : ∃ a, Ev (fun k => spec_DrawIsAlways.f k b) a ∧ a.length ≤ 1000 := by
  obtain ⟨h, e0, hc⟩ := l1New_ok b hb
  obtain ⟨f, i1, h1, e1, hl1, hc1⟩ := l10Any_ok b hb 0 h hc
  obtain ⟨r, i2, h2, e2, _⟩ := l1Once_ok b i1 h1 3 hc1 hb
  have hn := notOf_len f
  have hj := joinOf_len f (notOf f) (-3)
  unfold spec_DrawIsAlways.f
  cases r with
  | true => exact ⟨_, Ev.bind e0 (Ev.bind e1 (ev_bind0 e2 (ev_pos rfl (Ev.bind (notOf_spec f (by omega)) (Ev.bind (join_spec f (notOf f) (-3) (by omega) (by omega)) (Ev.now _)))))), by omega⟩
  | false => exact ⟨f, Ev.bind e0 (Ev.bind e1 (ev_bind0 e2 (ev_neg (by simp) (Ev.now _)))), by omega⟩
theorem drawAreAlike_ok (b : List Int) (hb : b.length ≤ 1048576) : ∃ x y, Ev (fun k => spec_DrawAreAlike.f k b) (x, y) ∧ x.length ≤ 1000 ∧ y.length ≤ 1000 := by
  obtain ⟨h, e0, hc⟩ := l1New_ok b hb
  obtain ⟨f, i1, h1, e1, hl1, hc1⟩ := l10Any_ok b hb 0 h hc
  obtain ⟨r, i2, h2, e2, hc2⟩ := l1Once_ok b i1 h1 2 hc1 hb
  have hn := notOf_len f
  have hn2 := notOf_len (notOf f)
  unfold spec_DrawAreAlike.f
  cases r with
  | true => exact ⟨_, _, Ev.bind e0 (Ev.bind e1 (ev_bind0 e2 (ev_pos rfl (Ev.bind (notOf_spec f (by omega)) (Ev.bind (notOf_spec (notOf f) (by omega)) (Ev.now _)))))), by dsimp only; omega, by omega⟩
  | false =>
    obtain ⟨g, i3, h3, e3, hl3, _⟩ := l10Any_ok b hb i2 h2 hc2
    exact ⟨f, g, Ev.bind e0 (Ev.bind e1 (ev_bind0 e2 (ev_neg (by simp) (Ev.bind e3 (Ev.now _))))), by omega, by omega⟩
theorem with_eq (l : List (List Int)) (f : List Int) (hl : l.length ≤ 1048576) : laws_with.f l f = some (l ++ [f]) := by
  unfold laws_with.f
  rw [Option.bind_some, if_pos (by rw [List.length_nil]; omega), Option.bind_some, List.nil_append, if_pos (by omega)]

theorem rowVal_notOf (f : List Int) (m : Nat) (h : 0 < (notOf f).length) : rowVal m (notOf f) = !(rowVal m f) := by
  unfold rowVal
  exact value_notOf _ f h
theorem isFormula_notOf (f : List Int) (h : 0 < (notOf f).length) : isFormula (notOf f) = true := by
  by_cases e : isFormula (f ++ [-1]) = true
  · unfold notOf
    rw [if_pos e]
    exact e
  · unfold notOf at h
    rw [if_neg e] at h
    simp at h
theorem countRows_notOf (f : List Int) (h : 0 < (notOf f).length) : countRows (notOf f) + countRows f = 64 := by
  have h1 := List.length_eq_countP_add_countP (fun m => rowVal m f) (l := List.range 64)
  have h2 : countRows (notOf f) = (List.range 64).countP (fun m => decide ¬rowVal m f = true) := by
    unfold countRows
    refine List.countP_congr fun m _ => ?_
    rw [rowVal_notOf f m h]
    simp
  rw [h2]
  unfold countRows
  rw [List.length_range] at h1
  omega
theorem follows_canHold (l : List (List Int)) (f : List Int) (h : 0 < (notOf f).length) : ∀ L : List Nat, L.all (followsB l f) = !(L.any fun j => (l ++ [notOf f]).all (rowVal j)) := by
  intro L
  induction L with
  | nil => rfl
  | cons m L ih =>
    rw [List.all_cons, List.any_cons, ih, List.all_append, List.all_cons, List.all_nil, rowVal_notOf f m h, Bool.and_true]
    unfold followsB
    cases l.all (rowVal m) <;> cases rowVal m f <;> simp
theorem FnFollows_j4 (l0 : List Int) (hb : l0.length ≤ 1048576) : Ev (fun k => laws_FnFollows.j4 k l0 false) true := by
  obtain ⟨x, y, eD, hx, hy⟩ := drawAreAlike_ok l0 hb
  refine Ev.step (fun k => by rw [laws_FnFollows.j4]) ?_
  have hxy := areAlike_impl x y (by omega) (by omega)
  have hyx := areAlike_impl y x (by omega) (by omega)
  have hsym : ((List.range 64).all (fun j => rowVal j y == rowVal j x) && (isFormula y && isFormula x)) = ((List.range 64).all (fun j => rowVal j x == rowVal j y) && (isFormula x && isFormula y)) := by
    rw [Bool.and_comm (isFormula y)]
    congr 2
    funext j
    cases rowVal j y <;> cases rowVal j x <;> rfl
  rw [hsym] at hyx
  refine ev_neg (by simp) (Ev.bind eD (Ev.bind hxy (Ev.bind hyx (ev_pos (by simp) (Ev.bind hxy (ev_ite (fun e => ?_) (fun e => Ev.now _)))))))
  rw [Bool.and_eq_true, Bool.and_eq_true, List.all_eq_true] at e
  obtain ⟨hall0, hfx, hfy⟩ := e
  have hall : ∀ j, j < 64 → rowVal j x = rowVal j y := fun j hj => by simpa using hall0 j (List.mem_range.2 hj)
  have hc : countRows x = countRows y := List.countP_congr fun m hm => by rw [hall m (List.mem_range.1 hm)]
  refine Ev.bind (countRows_impl x (by omega)) (Ev.bind (countRows_impl y (by omega)) (ev_pos (by rw [hc]) (Ev.bind (follows_impl [x] y (by omega) (by simp) (by first | (simp; done) | (simp; omega))) (ev_eq (Ev.now _) ?_))))
  rw [Bool.and_eq_true, List.all_eq_true]
  refine ⟨fun m hm => ?_, by simp [hfx, hfy]⟩
  have := hall m (List.mem_range.1 hm)
  unfold followsB
  cases h2 : rowVal m y <;> simp [this, h2]
theorem FnFollows_j3 (l0 a : List Int) (hb : l0.length ≤ 1048576) (ha : a.length ≤ 1000) : Ev (fun k => laws_FnFollows.j3 k l0 a (countRows a : Int) false) true := by
  have h4 := FnFollows_j4 l0 hb
  have hn := notOf_len a
  refine Ev.step (fun k => by rw [laws_FnFollows.j3]) ?_
  refine ev_neg (by simp) (Ev.bind (notOf_impl a (by omega)) (ev_ite (fun e => Ev.bind (isFormulaI_ev a (by omega)) (ev_ite (fun e2 => Ev.bind (countRows_impl (notOf a) (by omega)) ?_) (fun _ => h4))) (fun _ => h4)))
  have hc := countRows_notOf a (by omega)
  rw [wrap_id (by omega) (by omega), show (((countRows (notOf a) : Nat) : Int) != 64 - (countRows a : Int)) = false by simp; omega]
  exact h4
theorem FnFollows_j2 (l0 : List Int) (hb : l0.length ≤ 1048576) : Ev (fun k => laws_FnFollows.j2 k l0) true := by
  obtain ⟨a, eD, ha⟩ := drawIsAlways_ok l0 hb
  have h3 := FnFollows_j3 l0 a hb ha
  have hA := isAlways_impl a (by omega)
  refine Ev.step (fun k => by rw [laws_FnFollows.j2]) ?_
  refine Ev.bind eD (Ev.bind (countRows_impl a (by omega)) (Ev.bind (firstRow_impl a (by omega)) (Ev.bind hA (ev_neg ?_ (ev_neg ?_ (Ev.bind hA (ev_ite (fun e => ?_) (fun _ => h3))))))))
  · rw [show (((countRows a : Nat) : Int) == 64) = decide (countRows a = 64) by rw [Bool.eq_iff_iff, beq_iff_eq, decide_eq_true_eq]; omega]
    simp
  · have h1 := firstFrom_nonneg a 64 0
    have h2 : (0 : Int) < (countRows a : Int) ↔ ∃ j, 0 ≤ j ∧ j < 0 + 64 ∧ rowVal j a = true := by
      have := List.countP_pos_iff (p := fun m => rowVal m a) (l := List.range 64)
      have h5 : (0 : Int) < (countRows a : Int) ↔ 0 < List.countP (fun m => rowVal m a) (List.range 64) := by unfold countRows; omega
      rw [h5, this]
      constructor
      · rintro ⟨j, hj, hv⟩; exact ⟨j, by omega, by have := List.mem_range.1 hj; omega, hv⟩
      · rintro ⟨j, _, hj, hv⟩; exact ⟨j, List.mem_range.2 (by omega), hv⟩
    have h6 : decide (firstRow a ≥ 0) = decide ((countRows a : Int) > 0) := by
      rw [decide_eq_decide]
      exact h1.trans h2.symm
    rw [h6]
    simp
  · have hall := (countRows_all a).1 (of_decide_eq_true e)
    have h0 : firstRow a = 0 := firstFrom_at a 0 64 0 (by omega) (by omega) (hall 0 (by omega)) (fun j _ hj => by omega)
    rw [h0]
    exact h3
theorem FnFollows_l0 (l0 : List Int) (hb : l0.length ≤ 1048576) (l : List (List Int)) (f : List Int) (hl : l.length ≤ 3) (hy : ∀ y ∈ l, y.length ≤ 15) (hf : f.length ≤ 15) (hn : 0 < (notOf f).length) (hff : isFormula f = true) : ∀ (zs : List (List Int)) (i : Nat) (v : Bool), l.drop i = zs → (v && zs.all isFormula) = l.all isFormula → Ev (fun k => laws_FnFollows.l0 k l0 l f (notOf f) v (i : Int)) true := by
  have h2 := FnFollows_j2 l0 hb
  have hnl := notOf_len f
  have hy2 : ∀ y ∈ l, y.length ≤ 1048576 := fun y hm => Nat.le_trans (hy y hm) (by omega)
  intro zs
  induction zs with
  | nil =>
    intro i v h hv
    have := at_end h
    rw [List.all_nil, Bool.and_true] at hv
    have hfo := follows_impl l f (by omega) (by omega) hy2
    refine Ev.step (fun k => by rw [laws_FnFollows.l0]) ?_
    refine ev_neg (by omega) ?_
    cases v with
    | true =>
      have hca := canHold_impl (l ++ [notOf f]) (by rw [List.length_append, List.length_singleton]; omega) (fun y hm => by
        rcases List.mem_append.1 hm with hm | hm
        · exact hy2 y hm
        · rw [List.mem_singleton.1 hm]; omega)
      refine ev_pos rfl (Ev.bind hfo (ev_bind0 (with_eq l (notOf f) (by omega)) (Ev.bind hca (ev_neg ?_ h2))))
      rw [follows_canHold l f hn (List.range 64), List.all_append, ← hv, hff, List.all_cons, List.all_nil, isFormula_notOf f hn]
      simp
    | false =>
      refine ev_neg (by simp) (Ev.bind hfo (ev_neg ?_ h2))
      rw [← hv]
      simp
  | cons z zs ih =>
    intro i v h hv
    obtain ⟨hlt, hz, h3, _⟩ := at_drop h
    have hr : rd_L2 l (i : Int) = z := getD_at hz
    refine Ev.step (fun k => by rw [laws_FnFollows.l0]) ?_
    rw [hr, wrap_id (by omega) (by omega)]
    rw [List.all_cons] at hv
    refine ev_pos (by omega) ?_
    cases v with
    | true =>
      rw [Bool.true_and] at hv
      refine ev_pos rfl (ev_pos (by omega) (Ev.bind (isFormulaI_ev z (by have := hy z (List.mem_of_getElem? hz); omega)) (ih (i + 1) _ h3 hv)))
    | false => exact ev_neg (by simp) (ih (i + 1) false h3 (by rw [← hv]; simp))
theorem FnFollows (l0 : List Int) (g0 : l0.length ≤ 9223372036854775807 ∧ ∀ y ∈ l0, (Lit.int .u8 y).wf = true) : ∃ k, laws_FnFollows.f k l0 = some true := by
  refine Ev.rounds (g := fun k => laws_FnFollows.f k l0) ?_
  unfold laws_FnFollows.f
  refine ev_bind0 (big_eq l0) (ev_ite (fun _ => Ev.now _) (fun hm => ?_))
  have hb : l0.length ≤ 1048576 := by
    rw [decide_eq_true_eq] at hm
    omega
  obtain ⟨l, f, eD, hl, hy, hf⟩ := drawFollows_ok l0 hb
  have h2 : Ev (fun k => laws_FnFollows.j0 k l0 l f (notOf f) false) true := by
    refine Ev.step (fun k => by rw [laws_FnFollows.j0]) ?_
    exact ev_neg (by simp) (FnFollows_j2 l0 hb)
  refine Ev.bind eD (Ev.bind (notOf_impl f (by omega)) (ev_ite (fun e => Ev.bind (isFormulaI_ev f (by omega)) ?_) (fun _ => h2)))
  by_cases hff : isFormula f = true
  · rw [hff]
    refine Ev.step (fun k => by rw [laws_FnFollows.j0]) ?_
    exact ev_pos rfl (FnFollows_l0 l0 hb l f hl hy hf (by omega) hff l 0 true rfl (by simp))
  · rw [show isFormula f = false by simpa using hff]
    exact h2

end Go.Proofs.YtlbecibchkamjaaDoor.Pure
