/- The plain statement of the law FnExactIsCertain, for all numbers and lists. -/
import Derived.Test.YtkmhkkhlbnhaaaaPFnExactIsCertainx0
import Derived.Test.YtkmhkkhlbnhaaaaPFnExactIsCertainx1
import Derived.Test.YtkmhkkhlbnhaaaaPFnExactIsCertainx2
import Derived.Test.YtkmhkkhlbnhaaaaPFnExactIsCertainx3
import Derived.Test.YtkmhkkhlbnhaaaaPFnExactIsCertainx4
import Derived.Test.YtkmhkkhlbnhaaaaPFnExactIsCertainx5
import Derived.Test.YtkmhkkhlbnhaaaaPFnExactIsCertainx6
import Derived.Test.YtkmhkkhlbnhaaaaPFnExactIsCertainx7
import Derived.Test.YtkmhkkhlbnhaaaaPFnExactIsCertainx8
import Derived.Test.YtkmhkkhlbnhaaaaPFnExactIsCertainx9
import Derived.Test.YtkmhkkhlbnhaaaaPFnExactIsCertainx10
import Derived.Test.YtkmhkkhlbnhaaaaPFnExactIsCertainx11
import Derived.Test.YtkmhkkhlbnhaaaaPFnExactIsCertainx12
import Derived.Test.YtkmhkkhlbnhaaaaPFnExactIsCertainx13
import Derived.Test.YtkmhkkhlbnhaaaaBase
set_option linter.unusedVariables false
set_option linter.unusedSimpArgs false
namespace Go.Proofs.Ytkmhkkhlbnhaaaa.Pure
open Go.RowKit Go.Proofs.Ytkmhkkhlbnhaaaa.PFnExactIsCertain Go.Proofs.YtkmhkkhlbnhaaaaW.PrintWords Go.Proofs.YtkmhkkhlbnhaaaaW.PrintLast Go.Proofs.YtkmhkkhlbnhaaaaW.PrintMore Go.Proofs.Ytkmhkkhlbnhaaaa.Base
theorem toIntS_l0 (xs : List Int) (hn : xs.length ≤ 35184372088832) : ∀ (zs : List Int) (i : Nat) (ys : List Int), xs.drop i = zs → ys.length = xs.length → ys.take i = xs.take i → Ev (fun k => laws_toIntS.l0 k xs ys (i : Int)) xs := by
  intro zs
  induction zs with
  | nil =>
    intro i ys h hl ht
    have := at_end h
    refine Ev.step (fun k => by rw [laws_toIntS.l0]) (ev_neg (by omega) ?_)
    rw [List.take_of_length_le (by omega), List.take_of_length_le (by omega)] at ht
    rw [ht]
    exact Ev.now _
  | cons z zs ih =>
    intro i ys h hl ht
    obtain ⟨hi, hz, h', _⟩ := at_drop h
    refine Ev.step (fun k => by rw [laws_toIntS.l0]) (ev_pos (by omega) (ev_pos (by omega) (ev_pos (by omega) ?_)))
    rw [wrap_id (by omega) (by omega), Int.toNat_natCast, rd_get hz]
    exact ih (i + 1) _ h' (by simp [hl]) (by rw [take_set_at (by omega), take_at hz, ht])
theorem toIntS_ev (xs : List Int) (hn : xs.length ≤ 35184372088832) : Ev (fun k => laws_toIntS.f k xs) xs := by
  unfold laws_toIntS.f
  exact ev_pos (by omega) (ev_pos (by omega) (toIntS_l0 xs hn xs 0 _ rfl (by simp) (by simp)))
theorem eqIntS_l0 (xs ys : List Int) (hl : xs.length = ys.length) (hn : xs.length ≤ 9223372036854775807) : ∀ (zs us : List Int) (i : Nat), xs.drop i = zs → ys.drop i = us → Ev (fun k => laws_eqIntS.l0 k xs ys (i : Int)) (decide (zs = us)) := by
  intro zs
  induction zs with
  | nil =>
    intro us i h hu
    have := at_end h
    refine Ev.step (fun k => by rw [laws_eqIntS.l0]) (ev_neg (by omega) ?_)
    rw [List.drop_of_length_le (by omega)] at hu
    subst hu
    exact ev_eq (Ev.now _) (by simp)
  | cons z zs ih =>
    intro us i h hu
    obtain ⟨hi, hz, h', _⟩ := at_drop h
    cases us with
    | nil => have := at_end hu; omega
    | cons u us =>
      obtain ⟨_, hzu, hu', _⟩ := at_drop hu
      refine Ev.step (fun k => by rw [laws_eqIntS.l0]) (ev_pos (by omega) (ev_pos (by omega) (ev_pos (by omega) ?_)))
      rw [wrap_id (by omega) (by omega), rd_get hz, rd_get hzu]
      refine ev_ite (fun e => ev_eq (ih us (i + 1) h' hu') (by simp [e])) (fun e => ev_eq (Ev.now _) (by simp [e]))
theorem eqIntS_ev (xs ys : List Int) (hn : xs.length ≤ 9223372036854775807) : Ev (fun k => laws_eqIntS.f k xs ys) (decide (xs = ys)) := by
  unfold laws_eqIntS.f
  refine ev_ite (fun e => eqIntS_l0 xs ys (by omega) hn xs ys 0 rfl rfl) (fun e => ev_eq (Ev.now _) ?_)
  have : xs ≠ ys := by rintro rfl; exact e rfl
  simp [this]
theorem l4Has_l0 (xs : List Int) (x : Int) (hn : xs.length ≤ 9223372036854775807) : ∀ (zs : List Int) (i : Nat), xs.drop i = zs → Ev (fun k => spec_l4Has.l0 k xs x (i : Int)) (decide (x ∈ zs)) := by
  intro zs
  induction zs with
  | nil =>
    intro i h
    have := at_end h
    exact Ev.step (fun k => by rw [spec_l4Has.l0]) (ev_neg (by omega) (ev_eq (Ev.now _) (by simp)))
  | cons z zs ih =>
    intro i h
    obtain ⟨hi, hz, h', _⟩ := at_drop h
    refine Ev.step (fun k => by rw [spec_l4Has.l0]) (ev_pos (by omega) (ev_pos (by omega) ?_))
    rw [wrap_id (by omega) (by omega), rd_get hz]
    exact ev_ite (fun e => ev_eq (Ev.now _) (by simp [e])) (fun e => ev_eq (ih (i + 1) h') (by simp [Ne.symm e]))
theorem l4Has_ev (xs : List Int) (x : Int) (hn : xs.length ≤ 9223372036854775807) : Ev (fun k => spec_l4Has.f k xs x) (decide (x ∈ xs)) := by
  unfold spec_l4Has.f
  exact l4Has_l0 xs x hn xs 0 rfl
theorem indexInt_l0 (xs : List Int) (x : Int) (hn : xs.length ≤ 9223372036854775807) : ∀ (zs : List Int) (i : Nat), xs.drop i = zs → ∃ r : Int, Ev (fun k => slices_Index_int_int.l0 k xs x xs.length (i : Int)) r ∧ (0 ≤ r ↔ x ∈ zs) := by
  intro zs
  induction zs with
  | nil =>
    intro i h
    have := at_end h
    exact ⟨-1, Ev.step (fun k => by rw [slices_Index_int_int.l0]) (ev_neg (by omega) (Ev.now _)), by simp⟩
  | cons z zs ih =>
    intro i h
    obtain ⟨hi, hz, h', _⟩ := at_drop h
    by_cases e : x = z
    · refine ⟨i, Ev.step (fun k => by rw [slices_Index_int_int.l0]) (ev_pos (by omega) (ev_pos (by omega) (ev_pos (by omega) ?_))), by simp [e]⟩
      rw [rd_get hz]
      exact ev_pos e (Ev.now _)
    · obtain ⟨r, hr, hm⟩ := ih (i + 1) h'
      refine ⟨r, Ev.step (fun k => by rw [slices_Index_int_int.l0]) (ev_pos (by omega) (ev_pos (by omega) (ev_pos (by omega) ?_))), by simp [e, hm]⟩
      rw [rd_get hz, wrap_id (by omega) (by omega)]
      exact ev_neg e hr
theorem containsInt_ev (xs : List Int) (x : Int) (hn : xs.length ≤ 9223372036854775807) : Ev (fun k => slices_Contains_int_int.f k xs x) (decide (x ∈ xs)) := by
  unfold slices_Contains_int_int.f slices_Index_int_int.f
  obtain ⟨r, hr, hm⟩ := indexInt_l0 xs x hn xs 0 rfl
  exact Ev.bind hr (ev_eq (Ev.now _) (decide_eq_decide.2 hm))
theorem l1In_eq (x a b : Int) : spec_l1In.f x a b = some (decide (a ≤ x ∧ x ≤ b)) := by
  unfold spec_l1In.f
  by_cases h : a ≤ x <;> simp [h]
theorem inRange_eq (x a b : Int) : impl_InRange.f x a b = some (decide (a ≤ x ∧ x ≤ b)) := by
  unfold impl_InRange.f
  by_cases h : a ≤ x <;> simp [h]

theorem toIntSS_l0 (xs : List (List Int)) (hn : xs.length ≤ 11728124029610) (hi : ∀ y ∈ xs, y.length ≤ 35184372088832) : ∀ (zs : List (List Int)) (i : Nat) (ys : List (List Int)), xs.drop i = zs → ys.length = xs.length → ys.take i = xs.take i → Ev (fun k => laws_toIntSS.l0 k xs ys (i : Int)) xs := by
  intro zs
  induction zs with
  | nil =>
    intro i ys h hl ht
    have := at_end h
    refine Ev.step (fun k => by rw [laws_toIntSS.l0]) ?_
    refine ev_neg (by omega) ?_
    rw [List.take_of_length_le (by omega), List.take_of_length_le (by omega)] at ht
    rw [ht]
    exact Ev.now _
  | cons z zs ih =>
    intro i ys h hl ht
    obtain ⟨hlt, hz, h2, _⟩ := at_drop h
    have hr : rd_L1 xs (i : Int) = z := getD_at hz
    have hm : z ∈ xs := List.mem_of_getElem? hz
    refine Ev.step (fun k => by rw [laws_toIntSS.l0]) ?_
    refine ev_pos (by omega) (ev_pos (by omega) ?_)
    rw [hr]
    refine Ev.bind (toIntS_ev z (hi z hm)) (ev_pos (by omega) ?_)
    rw [wrap_id (by omega) (by omega), Int.toNat_natCast]
    exact ih (i + 1) _ h2 (by simp [hl]) (by rw [take_set_at (by omega), take_at hz, ht])
theorem toIntSS_ev (xs : List (List Int)) (hn : xs.length ≤ 11728124029610) (hi : ∀ y ∈ xs, y.length ≤ 35184372088832) : Ev (fun k => laws_toIntSS.f k xs) xs := by
  unfold laws_toIntSS.f
  exact ev_pos (by omega) (ev_pos (by omega) (toIntSS_l0 xs hn hi xs 0 _ rfl (by simp) (by simp)))
theorem eqIntSS_l0 (xs ys : List (List Int)) (hl : xs.length = ys.length) (hn : xs.length ≤ 9223372036854775807) (hi : ∀ y ∈ xs, y.length ≤ 9223372036854775807) : ∀ (zs us : List (List Int)) (i : Nat), xs.drop i = zs → ys.drop i = us → Ev (fun k => laws_eqIntSS.l0 k xs ys (i : Int)) (decide (zs = us)) := by
  intro zs
  induction zs with
  | nil =>
    intro us i h hu
    have := at_end h
    refine Ev.step (fun k => by rw [laws_eqIntSS.l0]) ?_
    rw [List.drop_of_length_le (by omega)] at hu
    subst hu
    exact ev_neg (by omega) (ev_eq (Ev.now _) (by simp))
  | cons z zs ih =>
    intro us i h hu
    obtain ⟨hlt, hz, h2, _⟩ := at_drop h
    cases us with
    | nil => have := at_end hu; omega
    | cons u us =>
      obtain ⟨_, hzu, hu2, _⟩ := at_drop hu
      have hr : rd_L1 xs (i : Int) = z := getD_at hz
      have hr2 : rd_L1 ys (i : Int) = u := getD_at hzu
      refine Ev.step (fun k => by rw [laws_eqIntSS.l0]) ?_
      refine ev_pos (by omega) (ev_pos (by omega) (ev_pos (by omega) ?_))
      rw [wrap_id (by omega) (by omega), hr, hr2]
      refine Ev.bind (eqIntS_ev z u (hi z (List.mem_of_getElem? hz))) (ev_ite (fun e => ev_eq (ih us (i + 1) h2 hu2) ?_) (fun e => ev_eq (Ev.now _) ?_))
      · simp only [decide_eq_true_eq] at e
        simp [e]
      · simp only [decide_eq_true_eq] at e
        simp [e]
theorem eqIntSS_ev (xs ys : List (List Int)) (hn : xs.length ≤ 9223372036854775807) (hi : ∀ y ∈ xs, y.length ≤ 9223372036854775807) : Ev (fun k => laws_eqIntSS.f k xs ys) (decide (xs = ys)) := by
  unfold laws_eqIntSS.f
  refine ev_ite (fun e => eqIntSS_l0 xs ys (by omega) hn hi xs ys 0 rfl rfl) (fun e => ev_eq (Ev.now _) ?_)
  have : xs ≠ ys := by rintro rfl; exact e rfl
  simp [this]
theorem eqIntSS_same (xs : List (List Int)) (hn : xs.length ≤ 9223372036854775807) (hi : ∀ y ∈ xs, y.length ≤ 9223372036854775807) : Ev (fun k => laws_eqIntSS.f k xs xs) true := ev_eq (eqIntSS_ev xs xs hn hi) (by simp)
theorem szIntS_eq (xs : List Int) (n : Int) (h0 : -9223372036854775808 + xs.length ≤ n) (h1 : n ≤ 9223372036854775807) : laws_szIntS.f xs n = some (if n - xs.length < 0 then -1 else n - xs.length) := by
  unfold laws_szIntS.f
  rw [wrap_id (by omega) (by omega)]
  split <;> rfl
theorem szIntSS_l0 (xs : List (List Int)) (hn : xs.length ≤ 9223372036854775807) (hi : ∀ y ∈ xs, y.length ≤ 9223372036854775807) : ∀ (zs : List (List Int)) (i : Nat) (n : Int), xs.drop i = zs → 0 ≤ n → n ≤ 1048576 → ∃ r, Ev (fun k => laws_szIntSS.l0 k xs n (i : Int)) r ∧ (¬ r < 0 → ∀ y ∈ zs, y.length ≤ 1048576) := by
  intro zs
  induction zs with
  | nil =>
    intro i n h _ _
    have := at_end h
    refine ⟨n, Ev.step (fun k => by rw [laws_szIntSS.l0]) ?_, by simp⟩
    exact ev_neg (by omega) (Ev.now _)
  | cons z zs ih =>
    intro i n h h0 h1
    obtain ⟨hlt, hz, h2, _⟩ := at_drop h
    have hr : rd_L1 xs (i : Int) = z := getD_at hz
    have hm := hi z (List.mem_of_getElem? hz)
    by_cases hs : n - (z.length : Int) < 0
    · refine ⟨-1, Ev.step (fun k => by rw [laws_szIntSS.l0]) ?_, by omega⟩
      refine ev_pos (by omega) (ev_pos (by omega) ?_)
      rw [hr]
      refine ev_bind0 (szIntS_eq z n (by omega) (by omega)) ?_
      rw [if_pos hs]
      exact ev_pos (by omega) (Ev.now _)
    · obtain ⟨r, hev, hall⟩ := ih (i + 1) (n - z.length) h2 (by omega) (by omega)
      refine ⟨r, Ev.step (fun k => by rw [laws_szIntSS.l0]) ?_, fun hr0 y hy => ?_⟩
      · refine ev_pos (by omega) (ev_pos (by omega) ?_)
        rw [hr]
        refine ev_bind0 (szIntS_eq z n (by omega) (by omega)) ?_
        rw [if_neg hs, wrap_id (by omega) (by omega)]
        exact ev_neg (by omega) hev
      · rcases List.mem_cons.1 hy with rfl | hy
        · omega
        · exact hall hr0 y hy
theorem szIntSS_ev (xs : List (List Int)) (hn : xs.length ≤ 9223372036854775807) (hi : ∀ y ∈ xs, y.length ≤ 9223372036854775807) : ∃ r, Ev (fun k => laws_szIntSS.f k xs 1048576) r ∧ (¬ r < 0 → xs.length ≤ 1048576 ∧ ∀ y ∈ xs, y.length ≤ 1048576) := by
  unfold laws_szIntSS.f
  by_cases hs : (1048576 : Int) - xs.length < 0
  · refine ⟨-1, ?_, by omega⟩
    rw [wrap_id (by omega) (by omega)]
    exact ev_pos hs (Ev.now _)
  · obtain ⟨r, hev, hall⟩ := szIntSS_l0 xs hn hi xs 0 (1048576 - xs.length) rfl (by omega) (by omega)
    refine ⟨r, ?_, fun h => ⟨by omega, hall h⟩⟩
    rw [wrap_id (by omega) (by omega)]
    exact ev_neg hs hev

theorem szGraph_ev (n : Int) (xs : List (List Int)) (hn : xs.length ≤ 9223372036854775807) (hi : ∀ y ∈ xs, y.length ≤ 9223372036854775807) : ∃ r, Ev (fun k => laws_szGraph.f k n xs 1048576) r ∧ (¬ r < 0 → xs.length ≤ 1048576 ∧ ∀ y ∈ xs, y.length ≤ 1048576) := by
  obtain ⟨r, hr, hok⟩ := szIntSS_ev xs hn hi
  unfold laws_szGraph.f
  by_cases h : r < 0
  · exact ⟨-1, Ev.bind hr (ev_pos h (Ev.now _)), by omega⟩
  · exact ⟨r, Ev.bind hr (ev_neg h (Ev.now _)), hok⟩
theorem toGraph_ev (n : Int) (xs : List (List Int)) (hn : xs.length ≤ 1048576) (hi : ∀ y ∈ xs, y.length ≤ 1048576) : Ev (fun k => laws_toGraph.f k n xs) (n, xs) := by
  unfold laws_toGraph.f
  exact Ev.bind (toIntSS_ev xs (by omega) (fun y hy => Nat.le_trans (hi y hy) (by decide))) (Ev.now _)
theorem eqGraph_same (n : Int) (xs : List (List Int)) (hn : xs.length ≤ 1048576) (hi : ∀ y ∈ xs, y.length ≤ 1048576) : Ev (fun k => laws_eqGraph.f k n xs n xs) true := by
  unfold laws_eqGraph.f
  exact ev_pos rfl (Ev.bind (eqIntSS_same xs (by omega) (fun y hy => Nat.le_trans (hi y hy) (by decide))) (ev_pos rfl (Ev.now _)))
def rowOk (h : Int) (r : List Int) : Bool := decide (r.length = 2 ∧ 0 ≤ rd r 0 ∧ rd r 0 ≤ h ∧ 0 ≤ rd r 1 ∧ rd r 1 ≤ h)
def lexLt (p r : List Int) : Bool := decide (rd p 0 < rd r 0 ∨ rd p 0 = rd r 0 ∧ rd p 1 < rd r 1)
def rowsOk (h : Int) : Option (List Int) → List (List Int) → Bool
  | _, [] => true
  | p, r :: rs => rowOk h r && ((match p with | none => true | some q => lexLt q r) && rowsOk h (some r) rs)
def isGraph (n : Int) (rs : List (List Int)) : Bool := decide (0 ≤ n ∧ n ≤ 10) && rowsOk (wrap64 (n - 1)) none rs
theorem isGraph_spec_l0 (n : Int) (xs : List (List Int)) (hn : xs.length ≤ 4611686018427387904) : ∀ (zs : List (List Int)) (i : Nat) (p : Option (List Int)), xs.drop i = zs → (i = 0 ∧ p = none ∨ ∃ q, p = some q ∧ 0 < i ∧ xs[i - 1]? = some q ∧ q.length = 2) → Ev (fun k => spec_IsGraph.l0 k (i : Int) n xs) (rowsOk (wrap64 (n - 1)) p zs && decide (0 ≤ n ∧ n ≤ 10)) := by
  intro zs
  induction zs with
  | nil =>
    intro i p h _
    have := at_end h
    refine Ev.step (fun k => by rw [spec_IsGraph.l0]) ?_
    refine ev_neg (by omega) (ev_bind0 (l1In_eq _ _ _) (ev_eq (Ev.now _) ?_))
    simp [rowsOk]
  | cons z zs ih =>
    intro i p h hp
    obtain ⟨hlt, hz, h2, _⟩ := at_drop h
    have hr : rd_L1 xs (i : Int) = z := getD_at hz
    refine Ev.step (fun k => by rw [spec_IsGraph.l0]) ?_
    refine ev_pos (by omega) (ev_pos (by omega) ?_)
    rw [hr]
    have bad : rowOk (wrap64 (n - 1)) z = false → Ev (fun k => spec_IsGraph.j1 k (i : Int) z true n xs) (rowsOk (wrap64 (n - 1)) p (z :: zs) && decide (0 ≤ n ∧ n ≤ 10)) := by
      intro hb
      refine Ev.step (fun k => by rw [spec_IsGraph.j1]) (ev_pos rfl (ev_eq (Ev.now _) ?_))
      simp [rowsOk, hb]
    refine ev_ite (fun e1 => ev_pos (by omega) (ev_bind0 (l1In_eq _ _ _) (ev_ite (fun e2 => ev_pos (by omega) (ev_bind0 (l1In_eq _ _ _) ?_)) (fun e2 => bad ?_)))) (fun e1 => bad ?_)
    · have e2 := of_decide_eq_true e2
      by_cases e3 : 0 ≤ rd z 1 ∧ rd z 1 ≤ wrap64 (n - 1)
      · have hok : rowOk (wrap64 (n - 1)) z = true := decide_eq_true ⟨by omega, e2.1, e2.2, e3.1, e3.2⟩
        have hl2 : z.length = 2 := by omega
        have ih2 := ih (i + 1) (some z) h2 (.inr ⟨z, rfl, by omega, hz, hl2⟩)
        rw [decide_eq_true e3]
        refine Ev.step (fun k => by rw [spec_IsGraph.j1]) (ev_neg (by decide) ?_)
        rw [wrap_id (x := (i : Int) + 1) (by omega) (by omega)]
        rcases hp with ⟨hi0, rfl⟩ | ⟨q, rfl, hi0, hq, hq2⟩
        · refine ev_neg (by omega) (ev_eq ih2 ?_)
          simp [rowsOk, hok]
        · have hr2 : rd_L1 xs ((i : Int) - 1) = q := by
            rw [show (i : Int) - 1 = ((i - 1 : Nat) : Int) by omega]
            exact getD_at hq
          rw [wrap_id (x := (i : Int) - 1) (by omega) (by omega), hr2]
          refine ev_pos (by omega) (ev_pos (by omega) (ev_pos (by omega) (ev_pos (by omega) (ev_pos (by omega) ?_))))
          refine ev_ite (fun e4 => ev_eq (Ev.now _) ?_) (fun e4 => ev_ite (fun e5 => ev_pos (by omega) (ev_pos (by omega) (ev_ite (fun e6 => ev_eq (Ev.now _) ?_) (fun e6 => ev_eq ih2 ?_)))) (fun e5 => ev_eq ih2 ?_))
          · have : lexLt q z = false := decide_eq_false (by omega)
            simp [rowsOk, this]
          · have : lexLt q z = false := decide_eq_false (by omega)
            simp [rowsOk, this]
          · have : lexLt q z = true := decide_eq_true (by omega)
            simp [rowsOk, this, hok]
          · have : lexLt q z = true := decide_eq_true (by omega)
            simp [rowsOk, this, hok]
      · rw [decide_eq_false e3]
        exact bad (decide_eq_false (by rintro ⟨_, _, _, h4, h5⟩; exact e3 ⟨h4, h5⟩))
    · have e2 : ¬ _ := fun h => e2 (decide_eq_true h)
      exact decide_eq_false (by rintro ⟨_, h2, h3, _⟩; exact e2 ⟨h2, h3⟩)
    · exact decide_eq_false (by rintro ⟨h1, _⟩; omega)
theorem isGraph_specB (n : Int) (xs : List (List Int)) (hn : xs.length ≤ 4611686018427387904) : Ev (fun k => spec_IsGraph.f k n xs) (isGraph n xs) := by
  unfold spec_IsGraph.f
  refine ev_eq (isGraph_spec_l0 n xs hn xs 0 none rfl (.inl ⟨rfl, rfl⟩)) ?_
  unfold isGraph
  exact Bool.and_comm _ _
theorem isGraph_spec (n : Int) (xs : List (List Int)) (hn : xs.length ≤ 1048576) : Ev (fun k => spec_IsGraph.f k n xs) (isGraph n xs) := isGraph_specB n xs (by omega)
theorem isGraph_n {n : Int} {xs : List (List Int)} (h : isGraph n xs = true) : 0 ≤ n ∧ n ≤ 10 := by
  unfold isGraph at h
  exact of_decide_eq_true (Bool.and_eq_true_iff.1 h).1
theorem rowsOk_mem {h : Int} : ∀ (rs : List (List Int)) (p : Option (List Int)), rowsOk h p rs = true → ∀ r ∈ rs, rowOk h r = true := by
  intro rs
  induction rs with
  | nil => intro p _ r hr; exact absurd hr (by simp)
  | cons a rs ih =>
    intro p hp r hr
    unfold rowsOk at hp
    simp only [Bool.and_eq_true] at hp
    rcases List.mem_cons.1 hr with rfl | hr
    · exact hp.1
    · exact ih (some a) hp.2.2 r hr
theorem isGraph_row {n : Int} {xs : List (List Int)} (h : isGraph n xs = true) {r : List Int} (hr : r ∈ xs) : r.length = 2 ∧ 0 ≤ rd r 0 ∧ rd r 0 ≤ n - 1 ∧ 0 ≤ rd r 1 ∧ rd r 1 ≤ n - 1 := by
  have hn := isGraph_n h
  unfold isGraph at h
  have := of_decide_eq_true (rowsOk_mem xs none (Bool.and_eq_true_iff.1 h).2 r hr)
  rw [wrap_id (by omega) (by omega)] at this
  exact this
theorem compare2 (a b c d : Int) : Ev (fun k => slices_Compare_int_int.f k [a, b] [c, d]) (if a < c then -1 else if a > c then 1 else if b < d then -1 else if b > d then 1 else 0) := by
  have hc : ∀ x y : Int, cmp_Compare_int.f x y = some (if x < y then -1 else if x > y then 1 else 0) := by
    intro x y
    unfold cmp_Compare_int.f cmp_isNaN_int.f
    simp only [bne_self_eq_false, Option.bind_some, Bool.false_eq_true, if_false]
    split
    · rfl
    · split <;> rfl
  have hl : ∀ x y : Int, (([x, y] : List Int).length : Int) = 2 := fun _ _ => rfl
  unfold slices_Compare_int_int.f
  refine Ev.step (fun k => by rw [slices_Compare_int_int.l0]) ?_
  rw [hl, hl]
  refine ev_pos (by omega) (ev_pos (by omega) (ev_pos (by omega) (ev_neg (by omega) (ev_pos (by omega) (ev_bind0 (hc _ _) ?_)))))
  rw [show rd [a, b] 0 = a from rfl, show rd [c, d] 0 = c from rfl]
  by_cases h1 : a < c
  · rw [if_pos h1, if_pos h1]
    exact ev_neg (by omega) (Ev.now _)
  · rw [if_neg h1, if_neg h1]
    by_cases h2 : a > c
    · rw [if_pos h2, if_pos h2]
      exact ev_neg (by omega) (Ev.now _)
    · rw [if_neg h2, if_neg h2]
      refine ev_pos rfl ?_
      rw [wrap_id (x := 0 + 1) (by omega) (by omega)]
      refine Ev.step (fun k => by rw [slices_Compare_int_int.l0]) ?_
      rw [hl, hl]
      refine ev_pos (by omega) (ev_pos (by omega) (ev_pos (by omega) (ev_neg (by omega) (ev_pos (by omega) (ev_bind0 (hc _ _) ?_)))))
      rw [show rd [a, b] (0 + 1) = b from rfl, show rd [c, d] (0 + 1) = d from rfl]
      by_cases h3 : b < d
      · rw [if_pos h3]
        exact ev_neg (by omega) (Ev.now _)
      · rw [if_neg h3]
        by_cases h4 : b > d
        · rw [if_pos h4]
          exact ev_neg (by omega) (Ev.now _)
        · rw [if_neg h4]
          refine ev_pos rfl ?_
          rw [wrap_id (x := 0 + 1 + 1) (by omega) (by omega)]
          refine Ev.step (fun k => by rw [slices_Compare_int_int.l0]) ?_
          rw [hl, hl]
          exact ev_neg (by omega) (ev_neg (by omega) (Ev.now _))
theorem two_of {r : List Int} (h : r.length = 2) : r = [rd r 0, rd r 1] := by
  match r, h with
  | [a, b], _ => rfl
theorem compare_rows (q z : List Int) (hq : q.length = 2) (hz : z.length = 2) : ∃ c : Int, Ev (fun k => slices_Compare_int_int.f k q z) c ∧ (c ≥ 0 ↔ lexLt q z = false) := by
  refine ⟨_, by rw [two_of hq, two_of hz]; exact compare2 _ _ _ _, ?_⟩
  unfold lexLt
  rw [decide_eq_false_iff_not]
  generalize rd q 0 = a
  generalize rd q 1 = b
  generalize rd z 0 = c
  generalize rd z 1 = d
  split
  · omega
  · split
    · omega
    · split
      · omega
      · split <;> omega
theorem isClaim_eq (n : Int) (xs : List (List Int)) (a : Int) : impl_isClaim.f n xs a = some (decide (0 ≤ a ∧ a ≤ wrap64 (n - 1))) := by
  unfold impl_isClaim.f
  rw [inRange_eq]
  rfl
theorem isGraph_impl_l0 (n : Int) (xs : List (List Int)) (hn : xs.length ≤ 4611686018427387904) : ∀ (zs : List (List Int)) (i : Nat) (p : Option (List Int)), xs.drop i = zs → (i = 0 ∧ p = none ∨ ∃ q, p = some q ∧ 0 < i ∧ xs[i - 1]? = some q ∧ q.length = 2) → Ev (fun k => impl_IsGraph.l0 k xs xs.length (i : Int) n xs) (rowsOk (wrap64 (n - 1)) p zs) := by
  intro zs
  induction zs with
  | nil =>
    intro i p h _
    have := at_end h
    refine Ev.step (fun k => by rw [impl_IsGraph.l0]) ?_
    exact ev_neg (by omega) (Ev.now _)
  | cons z zs ih =>
    intro i p h hp
    obtain ⟨hlt, hz, h2, _⟩ := at_drop h
    have hr : rd_L1 xs (i : Int) = z := getD_at hz
    refine Ev.step (fun k => by rw [impl_IsGraph.l0]) ?_
    refine ev_pos (by omega) (ev_pos (by omega) (ev_pos (by omega) ?_))
    rw [hr]
    have bad : rowOk (wrap64 (n - 1)) z = false → false = rowsOk (wrap64 (n - 1)) p (z :: zs) := by
      intro hb
      simp [rowsOk, hb]
    refine ev_ite (fun e1 => ev_pos (by omega) (ev_bind0 (isClaim_eq _ _ _) (ev_ite (fun e2 => ev_pos (by omega) (ev_bind0 (isClaim_eq _ _ _) (ev_ite (fun e3 => ?_) (fun e3 => ev_eq (Ev.now _) (bad ?_))))) (fun e2 => ev_eq (Ev.now _) (bad ?_))))) (fun e1 => ev_eq (Ev.now _) (bad ?_))
    · have e2 := of_decide_eq_true e2
      have e3 := of_decide_eq_true e3
      have hok : rowOk (wrap64 (n - 1)) z = true := decide_eq_true ⟨by omega, e2.1, e2.2, e3.1, e3.2⟩
      have hl2 : z.length = 2 := by omega
      have ih2 := ih (i + 1) (some z) h2 (.inr ⟨z, rfl, by omega, hz, hl2⟩)
      rw [wrap_id (x := (i : Int) + 1) (by omega) (by omega)]
      rcases hp with ⟨hi0, rfl⟩ | ⟨q, rfl, hi0, hq, hq2⟩
      · refine ev_neg (by omega) (ev_eq ih2 ?_)
        simp [rowsOk, hok]
      · have hr2 : rd_L1 xs ((i : Int) - 1) = q := by
          rw [show (i : Int) - 1 = ((i - 1 : Nat) : Int) by omega]
          exact getD_at hq
        rw [wrap_id (x := (i : Int) - 1) (by omega) (by omega), hr2]
        obtain ⟨c, hc, hc2⟩ := compare_rows q z hq2 hl2
        refine ev_pos (by omega) (ev_pos (by omega) (ev_pos (by omega) (Ev.bind hc (ev_ite (fun e4 => ev_eq (Ev.now _) ?_) (fun e4 => ev_eq ih2 ?_)))))
        · have := hc2.1 e4
          simp [rowsOk, this]
        · have : lexLt q z = true := by
            cases hl : lexLt q z with
            | true => rfl
            | false => exact absurd (hc2.2 hl) e4
          simp [rowsOk, this, hok]
    · have e3 : ¬ _ := fun h => e3 (decide_eq_true h)
      exact decide_eq_false (by rintro ⟨_, _, _, h4, h5⟩; exact e3 ⟨h4, h5⟩)
    · have e2 : ¬ _ := fun h => e2 (decide_eq_true h)
      exact decide_eq_false (by rintro ⟨_, h2, h3, _⟩; exact e2 ⟨h2, h3⟩)
    · exact decide_eq_false (by rintro ⟨h1, _⟩; omega)
theorem isGraph_implB (n : Int) (xs : List (List Int)) (hn : xs.length ≤ 4611686018427387904) : Ev (fun k => impl_IsGraph.f k n xs) (isGraph n xs) := by
  unfold impl_IsGraph.f isGraph
  refine ev_bind0 (inRange_eq _ _ _) (ev_ite (fun e => ?_) (fun e => ev_eq (Ev.now _) ?_))
  · rw [e, Bool.true_and]
    exact isGraph_impl_l0 n xs hn xs 0 none rfl (.inl ⟨rfl, rfl⟩)
  · rw [show decide (0 ≤ n ∧ n ≤ 10) = false by simpa using e, Bool.false_and]
theorem isGraph_impl (n : Int) (xs : List (List Int)) (hn : xs.length ≤ 1048576) : Ev (fun k => impl_IsGraph.f k n xs) (isGraph n xs) := isGraph_implB n xs (by omega)
def victims (n : Int) (xs : List (List Int)) (a : Int) : List Int := if isGraph n xs then (xs.filter fun r => decide (rd r 0 = a)).map fun r => rd r 1 else []
def attackers (n : Int) (xs : List (List Int)) (a : Int) : List Int := if isGraph n xs then (xs.filter fun r => decide (rd r 1 = a)).map fun r => rd r 0 else []
def does (n : Int) (xs : List (List Int)) (a b : Int) : Bool := isGraph n xs && xs.any fun r => decide (rd r 0 = a ∧ rd r 1 = b)
theorem victims_length (n : Int) (xs : List (List Int)) (a : Int) : (victims n xs a).length ≤ xs.length := by
  unfold victims
  split
  · rw [List.length_map]; exact List.length_filter_le _ _
  · simp
theorem attackers_length (n : Int) (xs : List (List Int)) (a : Int) : (attackers n xs a).length ≤ xs.length := by
  unfold attackers
  split
  · rw [List.length_map]; exact List.length_filter_le _ _
  · simp
theorem victims_mem (n : Int) (xs : List (List Int)) (a b : Int) : decide (b ∈ victims n xs a) = does n xs a b := by
  rw [Bool.eq_iff_iff, decide_eq_true_eq]
  unfold victims does
  cases isGraph n xs with
  | false => simp
  | true =>
    rw [if_pos rfl, Bool.true_and, List.any_eq_true, List.mem_map]
    constructor
    · rintro ⟨r, hr, rfl⟩
      rw [List.mem_filter] at hr
      exact ⟨r, hr.1, decide_eq_true ⟨of_decide_eq_true hr.2, rfl⟩⟩
    · rintro ⟨r, hr, h⟩
      have h := of_decide_eq_true h
      exact ⟨r, List.mem_filter.2 ⟨hr, decide_eq_true h.1⟩, h.2⟩
theorem does_range {n : Int} {xs : List (List Int)} {a b : Int} (h : does n xs a b = true) : 0 ≤ a ∧ a ≤ n - 1 ∧ 0 ≤ b ∧ b ≤ n - 1 := by
  unfold does at h
  rw [Bool.and_eq_true, List.any_eq_true] at h
  obtain ⟨hg, r, hr, h2⟩ := h
  have h2 := of_decide_eq_true h2
  have := isGraph_row hg hr
  rw [h2.1, h2.2] at this
  exact ⟨this.2.1, this.2.2.1, this.2.2.2.1, this.2.2.2.2⟩
theorem victims_l0 (n : Int) (xs : List (List Int)) (a : Int) (hg : isGraph n xs = true) (hn : xs.length ≤ 1048576) : ∀ (zs : List (List Int)) (i : Nat) (acc : List Int), xs.drop i = zs → acc.length ≤ i → Ev (fun k => impl_VictimsOf.l0 k a acc xs xs.length (i : Int)) (acc ++ (zs.filter fun r => decide (rd r 0 = a)).map fun r => rd r 1) := by
  intro zs
  induction zs with
  | nil =>
    intro i acc h _
    have := at_end h
    refine Ev.step (fun k => by rw [impl_VictimsOf.l0]) ?_
    exact ev_neg (by omega) (ev_eq (Ev.now _) (by simp))
  | cons z zs ih =>
    intro i acc h hl
    obtain ⟨hlt, hz, h2, _⟩ := at_drop h
    have hr : rd_L1 xs (i : Int) = z := getD_at hz
    have hg := isGraph_row hg (List.mem_of_getElem? hz)
    refine Ev.step (fun k => by rw [impl_VictimsOf.l0]) ?_
    rw [hr, wrap_id (x := (i : Int) + 1) (by omega) (by omega)]
    refine ev_pos (by omega) (ev_pos (by omega) (ev_pos (by omega) (ev_pos (by omega) (ev_ite (fun e2 => ev_pos (by omega) (ev_pos (by omega) (ev_eq (ih (i + 1) (acc ++ [rd z 1]) h2 (by first | (simp; done) | (simp; omega))) ?_))) (fun e2 => ev_eq (ih (i + 1) acc h2 (by omega)) ?_)))))
    · rw [List.filter_cons_of_pos (by simp [e2])]; simp
    · rw [List.filter_cons_of_neg (by simp [e2])]
theorem victims_impl (n : Int) (xs : List (List Int)) (a : Int) (hn : xs.length ≤ 1048576) : Ev (fun k => impl_VictimsOf.f k n xs a) (victims n xs a) := by
  unfold impl_VictimsOf.f victims
  refine ev_bind0 rfl (Ev.bind (isGraph_impl n xs hn) (ev_ite (fun e => ?_) (fun e => ev_eq (Ev.now _) ?_)))
  · rw [if_pos e]
    exact victims_l0 n xs a e hn xs 0 [] rfl (by simp)
  · rw [if_neg e]
theorem attackers_l0 (n : Int) (xs : List (List Int)) (a : Int) (hg : isGraph n xs = true) (hn : xs.length ≤ 1048576) : ∀ (zs : List (List Int)) (i : Nat) (acc : List Int), xs.drop i = zs → acc.length ≤ i → Ev (fun k => impl_AttackersOf.l0 k a acc xs xs.length (i : Int)) (acc ++ (zs.filter fun r => decide (rd r 1 = a)).map fun r => rd r 0) := by
  intro zs
  induction zs with
  | nil =>
    intro i acc h _
    have := at_end h
    refine Ev.step (fun k => by rw [impl_AttackersOf.l0]) ?_
    exact ev_neg (by omega) (ev_eq (Ev.now _) (by simp))
  | cons z zs ih =>
    intro i acc h hl
    obtain ⟨hlt, hz, h2, _⟩ := at_drop h
    have hr : rd_L1 xs (i : Int) = z := getD_at hz
    have hg := isGraph_row hg (List.mem_of_getElem? hz)
    refine Ev.step (fun k => by rw [impl_AttackersOf.l0]) ?_
    rw [hr, wrap_id (x := (i : Int) + 1) (by omega) (by omega)]
    refine ev_pos (by omega) (ev_pos (by omega) (ev_pos (by omega) (ev_pos (by omega) (ev_ite (fun e2 => ev_pos (by omega) (ev_pos (by omega) (ev_eq (ih (i + 1) (acc ++ [rd z 0]) h2 (by first | (simp; done) | (simp; omega))) ?_))) (fun e2 => ev_eq (ih (i + 1) acc h2 (by omega)) ?_)))))
    · rw [List.filter_cons_of_pos (by simp [e2])]; simp
    · rw [List.filter_cons_of_neg (by simp [e2])]
theorem attackers_impl (n : Int) (xs : List (List Int)) (a : Int) (hn : xs.length ≤ 1048576) : Ev (fun k => impl_AttackersOf.f k n xs a) (attackers n xs a) := by
  unfold impl_AttackersOf.f attackers
  refine ev_bind0 rfl (Ev.bind (isGraph_impl n xs hn) (ev_ite (fun e => ?_) (fun e => ev_eq (Ev.now _) ?_)))
  · rw [if_pos e]
    exact attackers_l0 n xs a e hn xs 0 [] rfl (by simp)
  · rw [if_neg e]
theorem attackersS_l0 (n : Int) (xs : List (List Int)) (a : Int) (hn : xs.length ≤ 1048576) : ∀ (zs : List (List Int)) (i : Nat) (acc : List Int), xs.drop i = zs → acc.length ≤ i → Ev (fun k => spec_AttackersOf.l0 k a acc (i : Int) n xs) (acc ++ if isGraph n xs then (zs.filter fun r => decide (rd r 1 = a)).map fun r => rd r 0 else []) := by
  intro zs
  induction zs with
  | nil =>
    intro i acc h _
    have := at_end h
    refine Ev.step (fun k => by rw [spec_AttackersOf.l0]) ?_
    exact ev_neg (by omega) (Ev.step (fun k => by rw [spec_AttackersOf.j1]) (ev_neg (by decide) (ev_eq (Ev.now _) (by simp))))
  | cons z zs ih =>
    intro i acc h hl
    obtain ⟨hlt, hz, h2, _⟩ := at_drop h
    have hr : rd_L1 xs (i : Int) = z := getD_at hz
    refine Ev.step (fun k => by rw [spec_AttackersOf.l0]) ?_
    refine ev_pos (by omega) (Ev.bind (isGraph_spec n xs hn) (Ev.step (fun k => by rw [spec_AttackersOf.j1]) (ev_ite (fun e => ?_) (fun e => ev_eq (Ev.now _) ?_))))
    · have hg := isGraph_row e (List.mem_of_getElem? hz)
      rw [hr, wrap_id (x := (i : Int) + 1) (by omega) (by omega)]
      refine ev_pos (by omega) (ev_pos (by omega) (ev_pos (by omega) (ev_ite (fun e2 => ev_pos (by omega) (ev_pos (by omega) (ev_eq (ih (i + 1) (acc ++ [rd z 0]) h2 (by first | (simp; done) | (simp; omega))) ?_))) (fun e2 => ev_eq (ih (i + 1) acc h2 (by omega)) ?_))))
      · rw [if_pos e, if_pos e, List.filter_cons_of_pos (by simp [e2])]; simp
      · rw [if_pos e, if_pos e, List.filter_cons_of_neg (by simp [e2])]
    · rw [if_neg e, List.append_nil]
theorem attackers_spec (n : Int) (xs : List (List Int)) (a : Int) (hn : xs.length ≤ 1048576) : Ev (fun k => spec_AttackersOf.f k n xs a) (attackers n xs a) := by
  unfold spec_AttackersOf.f attackers
  exact attackersS_l0 n xs a hn xs 0 [] rfl (by simp)
def inR (n a : Int) : Bool := decide (0 ≤ a ∧ a ≤ wrap64 (n - 1))
/-- Going up. -/
def upward : List Int → Bool
  | [] => true
  | [_] => true
  | a :: b :: r => decide (a < b) && upward (b :: r)
def isSet (n : Int) (xs : List (List Int)) (cs : List Int) : Bool := isGraph n xs && (cs.all (inR n) && upward cs)
theorem isSet_l0 (n : Int) (xs : List (List Int)) (cs : List Int) (ha : cs.length ≤ 1048576) : ∀ (zs : List Int) (i : Nat), cs.drop i = zs → Ev (fun k => impl_IsSet.l0 k cs cs (cs.length : Int) (i : Int) n xs) (zs.all (inR n) && upward (if i = 0 then zs else rd cs ((i : Int) - 1) :: zs)) := by
  intro zs
  induction zs with
  | nil =>
    intro i h
    have := at_end h
    refine Ev.step (fun k => by rw [impl_IsSet.l0]) (ev_neg (by omega) (ev_eq (Ev.now _) ?_))
    split <;> rfl
  | cons z zs ih =>
    intro i h
    obtain ⟨hlt, hz, h2, _⟩ := at_drop h
    have hr : rd cs (i : Int) = z := rd_get hz
    have hi1 : Ev (fun k => impl_IsSet.l0 k cs cs (cs.length : Int) (wrap64 ((i : Int) + 1)) n xs) (zs.all (inR n) && upward (z :: zs)) := by
      rw [wrap_id (x := (i : Int) + 1) (by omega) (by omega)]
      have := ih (i + 1) h2
      rw [if_neg (by omega), show ((i + 1 : Nat) : Int) - 1 = (i : Int) by omega, hr] at this
      exact this
    refine Ev.step (fun k => by rw [impl_IsSet.l0]) ?_
    refine ev_pos (by omega) (ev_pos (by omega) (ev_pos (by omega) ?_))
    rw [hr]
    refine ev_bind0 (isClaim_eq _ _ _) (ev_ite (fun e => ?_) (fun e => ev_eq (Ev.now _) ?_))
    · have hz1 : inR n z = true := e
      by_cases h0 : i = 0
      · subst h0
        refine ev_neg (by omega) (ev_eq hi1 ?_)
        rw [if_pos rfl, List.all_cons, hz1, Bool.true_and]
      · rw [wrap_id (x := (i : Int) - 1) (by omega) (by omega)]
        refine ev_pos (by omega) (ev_pos (by omega) (ev_pos (by omega) (ev_ite (fun e2 => ev_eq (Ev.now _) ?_) (fun e2 => ev_eq hi1 ?_))))
        · rw [if_neg h0, show upward (rd cs ((i : Int) - 1) :: z :: zs) = (decide (rd cs ((i : Int) - 1) < z) && upward (z :: zs)) from rfl, decide_eq_false (by omega), Bool.false_and, Bool.and_false]
        · rw [if_neg h0, show upward (rd cs ((i : Int) - 1) :: z :: zs) = (decide (rd cs ((i : Int) - 1) < z) && upward (z :: zs)) from rfl, decide_eq_true (by omega), Bool.true_and, List.all_cons, hz1, Bool.true_and]
    · have hz1 : inR n z = false := by simpa [inR] using e
      rw [List.all_cons, hz1, Bool.false_and, Bool.false_and]
theorem isSet_ev (n : Int) (xs : List (List Int)) (cs : List Int) (hn : xs.length ≤ 1048576) (ha : cs.length ≤ 1048576) : Ev (fun k => impl_IsSet.f k n xs cs) (isSet n xs cs) := by
  unfold impl_IsSet.f isSet
  refine Ev.bind (isGraph_impl n xs hn) (ev_ite (fun e => ?_) (fun e => ev_eq (Ev.now _) ?_))
  · rw [e, Bool.true_and]
    exact isSet_l0 n xs cs ha cs 0 rfl
  · rw [show isGraph n xs = false by simpa using e, Bool.false_and]
theorem two {r : List Int} (h : r.length = 2) : r = [rd r 0, rd r 1] := by
  match r, h with
  | [a, b], _ => rfl
theorem compact_mem (zs : List Int) (y : Int) : y ∈ Go.Lib.compact zs ↔ y ∈ zs := by
  unfold Go.Lib.compact Go.Lib.compactUpTo
  constructor
  · intro h
    obtain ⟨j, hj, rfl⟩ := List.mem_map.1 h
    have hj2 := List.mem_range.1 (List.mem_filter.1 hj).1
    simp [hj2]
  · intro h
    obtain ⟨j, hj, he⟩ := List.getElem_of_mem h
    have key : ∀ j, (hj : j < zs.length) → zs[j] = y → y ∈ ((List.range zs.length).filter (Go.Lib.keeps zs.toArray)).map (zs.toArray[·]!) := by
      intro j
      induction j with
      | zero =>
        intro hj he
        exact List.mem_map.2 ⟨0, List.mem_filter.2 ⟨List.mem_range.2 hj, by simp [Go.Lib.keeps]⟩, by simp [hj, he]⟩
      | succ j ih =>
        intro hj he
        by_cases hk : Go.Lib.keeps zs.toArray (j + 1) = true
        · exact List.mem_map.2 ⟨j + 1, List.mem_filter.2 ⟨List.mem_range.2 hj, hk⟩, by simp [hj, he]⟩
        · refine ih (by omega) ?_
          have : zs[j + 1] = zs[j] := by simpa [Go.Lib.keeps, hj, show j < zs.length by omega] using hk
          rw [← this, he]
    exact key j hj he
theorem compact_asc (zs : List Int) (h : zs.Pairwise (· ≤ ·)) : (Go.Lib.compact zs).Pairwise (· < ·) := by
  unfold Go.Lib.compact Go.Lib.compactUpTo
  rw [List.pairwise_map]
  refine List.Pairwise.imp_of_mem ?_ (List.Pairwise.filter _ List.pairwise_lt_range)
  intro i j hi hj hij
  have hj2 := List.mem_range.1 (List.mem_filter.1 hj).1
  have hk := (List.mem_filter.1 hj).2
  have hk2 : ¬ zs[j] = zs[j - 1] := by
    have h1 : j = 0 ∨ ¬ zs[j] = zs[j - 1] := by simpa [Go.Lib.keeps, hj2, show j - 1 < zs.length by omega] using hk
    rcases h1 with h1 | h1
    · omega
    · exact h1
  have hp := List.pairwise_iff_getElem.1 h
  have h1 : zs[j - 1] ≤ zs[j] := hp (j - 1) j (by omega) hj2 (by omega)
  have h2 : zs[i] ≤ zs[j - 1] := by
    by_cases e : i = j - 1
    · subst e
      exact Int.le_refl _
    · exact hp i (j - 1) (by omega) (by omega) (by omega)
  simp only [List.getElem!_toArray, getElem!_pos zs i (by omega), getElem!_pos zs j hj2]
  omega
theorem sorted_asc (l : List Int) : (sorted_ l).Pairwise (· ≤ ·) := by
  have h := List.pairwise_mergeSort (le := fun x y : Int => decide (x ≤ y)) (by intro a b c h1 h2; simp at *; omega) (by intro a b; first | (simp; done) | (simp; omega)) l
  exact h.imp (fun h => by simpa using h)
theorem sorted_mem (l : List Int) (y : Int) : y ∈ sorted_ l ↔ y ∈ l := by
  unfold sorted_
  exact List.mem_mergeSort
/-- i, i + 1, .. (d of them), those that p takes. -/
def fromN (p : Int → Bool) : Nat → Nat → List Int
  | _, 0 => []
  | i, d + 1 => (if p (i : Int) = true then [(i : Int)] else []) ++ fromN p (i + 1) d
theorem fromN_mem (p : Int → Bool) (y : Int) : ∀ d i : Nat, y ∈ fromN p i d ↔ ((i : Int) ≤ y ∧ y < (i : Int) + d) ∧ p y = true := by
  intro d
  induction d with
  | zero =>
    intro i
    unfold fromN
    refine ⟨fun h => absurd h (by simp), fun h => ?_⟩
    have := h.1
    omega
  | succ d ih =>
    intro i
    unfold fromN
    rw [List.mem_append, ih (i + 1)]
    by_cases e : y = (i : Int)
    · subst e
      by_cases hp : p (i : Int) = true
      · rw [if_pos hp]
        refine ⟨fun _ => ⟨by omega, hp⟩, fun _ => .inl (by simp)⟩
      · rw [if_neg hp]
        refine ⟨fun h => ?_, fun h => absurd h.2 hp⟩
        rcases h with h | h
        · exact absurd h (by simp)
        · exact absurd h.2 hp
    · have h1 : ¬ y ∈ (if p (i : Int) = true then [(i : Int)] else []) := by
        split
        · simpa using e
        · simp
      constructor
      · rintro (h | h)
        · exact absurd h h1
        · exact ⟨by omega, h.2⟩
      · intro h
        exact .inr ⟨by omega, h.2⟩
theorem fromN_asc (p : Int → Bool) : ∀ d i : Nat, (fromN p i d).Pairwise (· < ·) := by
  intro d
  induction d with
  | zero => exact fun i => List.Pairwise.nil
  | succ d ih =>
    intro i
    unfold fromN
    split
    · refine List.pairwise_cons.2 ⟨fun y hy => ?_, ih (i + 1)⟩
      have := ((fromN_mem p y d (i + 1)).1 hy).1
      omega
    · exact ih (i + 1)
theorem fromN_len (p : Int → Bool) : ∀ d i : Nat, (fromN p i d).length ≤ d := by
  intro d
  induction d with
  | zero => exact fun i => Nat.le_refl _
  | succ d ih =>
    intro i
    unfold fromN
    have := ih (i + 1)
    rw [List.length_append]
    split
    · rw [List.length_singleton]; omega
    · rw [List.length_nil]; omega
theorem asc_same : ∀ (l m : List Int), l.Pairwise (· < ·) → m.Pairwise (· < ·) → (∀ y, y ∈ l ↔ y ∈ m) → l = m
  | [], [], _, _, _ => rfl
  | [], b :: m, _, _, h => by have := (h b).2 (by simp); simp at this
  | a :: l, [], _, _, h => by have := (h a).1 (by simp); simp at this
  | a :: l, b :: m, hl, hm, h => by
    rw [List.pairwise_cons] at hl hm
    have hab : a = b := by
      rcases List.mem_cons.1 ((h a).1 (by simp)) with e | h1
      · exact e
      · rcases List.mem_cons.1 ((h b).2 (by simp)) with e | h2
        · exact e.symm
        · have h3 := hm.1 a h1
          have h4 := hl.1 b h2
          omega
    subst hab
    rw [asc_same l m hl.2 hm.2 (fun y => ?_)]
    constructor
    · intro hy
      rcases List.mem_cons.1 ((h y).1 (List.mem_cons_of_mem _ hy)) with rfl | h1
      · have := hl.1 y hy
        omega
      · exact h1
    · intro hy
      rcases List.mem_cons.1 ((h y).2 (List.mem_cons_of_mem _ hy)) with rfl | h1
      · have := hm.1 y hy
        omega
      · exact h1
def hitB (xs : List (List Int)) (s : List Int) (k : Int) : Bool := xs.any fun r => decide (rd r 1 = k ∧ rd r 0 ∈ s)
def hits (n : Int) (xs : List (List Int)) (s : List Int) : List Int := if isGraph n xs = true then fromN (hitB xs s) 0 n.toNat else []
theorem hits_len (n : Int) (xs : List (List Int)) (s : List Int) : (hits n xs s).length ≤ 10 := by
  unfold hits
  split
  · rename_i h
    have h1 := isGraph_n h
    have h2 := fromN_len (hitB xs s) n.toNat 0
    omega
  · simp
theorem hitS_l1 (n : Int) (xs : List (List Int)) (s : List Int) (hg : isGraph n xs = true) (hn : xs.length ≤ 1048576) (hs : s.length ≤ 1048576) (kk : Int) (acc : List Int) (ha : acc.length ≤ 1048576) (R : List Int) : ∀ (zs : List (List Int)) (i : Nat) (b : Bool), xs.drop i = zs → Ev (fun k => spec_HitBy.l0 k s (if (b || hitB zs s kk) = true then acc ++ [kk] else acc) (wrap64 (kk + 1)) n xs) R → Ev (fun k => spec_HitBy.l1 k s acc kk b (i : Int) n xs) R := by
  intro zs
  induction zs with
  | nil =>
    intro i b h hR
    have := at_end h
    refine Ev.step (fun k => by rw [spec_HitBy.l1]) (ev_neg (by omega) ?_)
    rw [show hitB [] s kk = false from rfl, Bool.or_false] at hR
    refine ev_ite (fun e => ev_pos (by omega) ?_) (fun e => ?_)
    · rw [if_pos e] at hR
      exact hR
    · rw [if_neg e] at hR
      exact hR
  | cons z zs ih =>
    intro i b h hR
    obtain ⟨hlt, hz, h2, _⟩ := at_drop h
    have hr : rd_L1 xs (i : Int) = z := getD_at hz
    have hlen := (isGraph_row hg (List.mem_of_getElem? hz)).1
    have hcons : hitB (z :: zs) s kk = (decide (rd z 1 = kk ∧ rd z 0 ∈ s) || hitB zs s kk) := rfl
    refine Ev.step (fun k => by rw [spec_HitBy.l1]) (ev_pos (by omega) ?_)
    rw [hr, wrap_id (x := (i : Int) + 1) (by omega) (by omega)]
    refine ev_ite (fun e => ih (i + 1) true h2 ?_) (fun e => ev_pos (by omega) (ev_pos (by omega) (ev_ite (fun e1 => ev_pos (by omega) (Ev.bind (l4Has_ev s (rd z 0) (by omega)) (ih (i + 1) _ h2 ?_))) (fun e1 => ih (i + 1) false h2 ?_))))
    · rw [e] at hR
      rw [Bool.true_or] at hR ⊢
      exact hR
    · rw [hcons, show b = false by simpa using e, Bool.false_or] at hR
      have : decide (rd z 1 = kk ∧ rd z 0 ∈ s) = decide (rd z 0 ∈ s) := decide_eq_decide.2 ⟨fun h => h.2, fun h => ⟨e1, h⟩⟩
      rw [this] at hR
      exact hR
    · rw [hcons, show b = false by simpa using e, Bool.false_or, decide_eq_false (fun h => e1 h.1)] at hR
      exact hR
theorem hitS_l0 (n : Int) (xs : List (List Int)) (s : List Int) (hg : isGraph n xs = true) (hn : xs.length ≤ 1048576) (hs : s.length ≤ 1048576) : ∀ (d i : Nat) (acc : List Int), (i : Int) + d = n → acc.length ≤ i → Ev (fun k => spec_HitBy.l0 k s acc (i : Int) n xs) (acc ++ fromN (hitB xs s) i d) := by
  have hb := isGraph_n hg
  intro d
  induction d with
  | zero =>
    intro i acc h hl
    refine Ev.step (fun k => by rw [spec_HitBy.l0]) (ev_neg (by omega) (Ev.step (fun k => by rw [spec_HitBy.j1]) ?_))
    exact ev_neg (by decide) (ev_eq (Ev.now _) (by simp [fromN]))
  | succ d ih =>
    intro i acc h hl
    refine Ev.step (fun k => by rw [spec_HitBy.l0]) (ev_pos (by omega) (Ev.bind (isGraph_spec n xs hn) ?_))
    rw [hg]
    refine Ev.step (fun k => by rw [spec_HitBy.j1]) (ev_pos rfl ?_)
    refine hitS_l1 n xs s hg hn hs (i : Int) acc (by omega) _ xs 0 false rfl ?_
    rw [wrap_id (by omega) (by omega), Bool.false_or]
    unfold fromN
    split
    · refine ev_eq (ih (i + 1) _ (by omega) (by rw [List.length_append, List.length_singleton]; omega)) (by simp)
    · exact ih (i + 1) acc (by omega) (by omega)
theorem hits_spec (n : Int) (xs : List (List Int)) (s : List Int) (hn : xs.length ≤ 1048576) (hs : s.length ≤ 1048576) : Ev (fun k => spec_HitBy.f k n xs s) (hits n xs s) := by
  unfold spec_HitBy.f hits
  by_cases hg : isGraph n xs = true
  · rw [if_pos hg]
    have hb := isGraph_n hg
    exact hitS_l0 n xs s hg hn hs n.toNat 0 [] (by omega) (Nat.le_refl _)
  · rw [if_neg hg]
    refine Ev.step (fun k => by rw [spec_HitBy.l0]) (ev_ite (fun _ => Ev.bind (isGraph_spec n xs hn) ?_) (fun _ => Ev.step (fun k => by rw [spec_HitBy.j1]) (ev_neg (by decide) (Ev.now _))))
    rw [show isGraph n xs = false by simpa using hg]
    exact Ev.step (fun k => by rw [spec_HitBy.j1]) (ev_neg (by decide) (Ev.now _))
theorem hitI_l0 (n : Int) (xs : List (List Int)) (s : List Int) (hn : xs.length ≤ 1048576) (hs : s.length ≤ 1048576) : ∀ (zs : List Int) (i : Nat) (acc : List Int), s.drop i = zs → i ≤ s.length → acc.length ≤ i * 1048576 → Ev (fun k => impl_HitBy.l0 k acc s (s.length : Int) (i : Int) n xs) (Go.Lib.compact (sorted_ (acc ++ zs.flatMap (victims n xs)))) := by
  intro zs
  induction zs with
  | nil =>
    intro i acc h hle hl
    have := at_end h
    refine Ev.step (fun k => by rw [impl_HitBy.l0]) (ev_neg (by omega) ?_)
    by_cases hi2 : acc.length < 4611686018427387904
    · refine ev_bind0 (a := sorted_ acc) ?_ (ev_bind0 (a := Go.Lib.compact (sorted_ acc)) rfl (ev_eq (Ev.now _) (by simp)))
      unfold slices_Sort_int_int.f
      rw [if_pos hi2]
    · exfalso
      omega
  | cons z zs ih =>
    intro i acc h hle hl
    obtain ⟨hlt, hz, h2, _⟩ := at_drop h
    have hr : rd s (i : Int) = z := rd_get hz
    have hv := victims_length n xs z
    refine Ev.step (fun k => by rw [impl_HitBy.l0]) (ev_pos (by omega) (ev_pos (by omega) (ev_pos (by omega) ?_)))
    rw [hr, wrap_id (by omega) (by omega)]
    refine Ev.bind (victims_impl n xs z hn) (ev_pos (by omega) (ev_eq (ih (i + 1) _ h2 (by omega) (by rw [List.length_append]; omega)) ?_))
    rw [List.flatMap_cons, List.append_assoc]
theorem hits_impl (n : Int) (xs : List (List Int)) (s : List Int) (hn : xs.length ≤ 1048576) (hs : s.length ≤ 1024) : Ev (fun k => impl_HitBy.f k n xs s) (hits n xs s) := by
  unfold impl_HitBy.f
  refine ev_eq (hitI_l0 n xs s hn (by omega) s 0 [] rfl (by omega) (by simp)) ?_
  have hasc : (hits n xs s).Pairwise (· < ·) := by
    unfold hits
    split
    · exact fromN_asc _ _ _
    · exact List.Pairwise.nil
  refine asc_same _ _ (compact_asc _ (sorted_asc _)) hasc (fun y => ?_)
  rw [compact_mem, sorted_mem, List.nil_append, List.mem_flatMap]
  have hd : ∀ a, y ∈ victims n xs a ↔ does n xs a y = true := fun a => by rw [← victims_mem, decide_eq_true_eq]
  unfold hits
  by_cases hg : isGraph n xs = true
  · rw [if_pos hg, fromN_mem]
    unfold hitB
    rw [List.any_eq_true]
    constructor
    · rintro ⟨a, ha, hy⟩
      rw [hd] at hy
      have hrange := does_range hy
      unfold does at hy
      rw [Bool.and_eq_true, List.any_eq_true] at hy
      obtain ⟨_, r, hr, he⟩ := hy
      have he := of_decide_eq_true he
      exact ⟨by have := isGraph_n hg; omega, r, hr, decide_eq_true ⟨he.2, by rw [he.1]; exact ha⟩⟩
    · rintro ⟨_, r, hr, he⟩
      have he := of_decide_eq_true he
      refine ⟨rd r 0, he.2, ?_⟩
      rw [hd]
      unfold does
      rw [Bool.and_eq_true, List.any_eq_true]
      exact ⟨hg, r, hr, decide_eq_true ⟨rfl, he.1⟩⟩
  · rw [if_neg hg]
    refine ⟨?_, fun h => absurd h (by simp)⟩
    rintro ⟨a, _, hy⟩
    rw [hd] at hy
    unfold does at hy
    rw [Bool.and_eq_true] at hy
    exact absurd hy.1 hg
theorem isSetS_l0 (n : Int) (xs : List (List Int)) (cs : List Int) (ha : cs.length ≤ 1048576) : ∀ (zs : List Int) (i : Nat), cs.drop i = zs → Ev (fun k => spec_IsSet.l0 k cs (i : Int) n xs) (zs.all (inR n) && upward (if i = 0 then zs else rd cs ((i : Int) - 1) :: zs)) := by
  intro zs
  induction zs with
  | nil =>
    intro i h
    have := at_end h
    refine Ev.step (fun k => by rw [spec_IsSet.l0]) (ev_neg (by omega) (ev_eq (Ev.now _) ?_))
    split <;> rfl
  | cons z zs ih =>
    intro i h
    obtain ⟨hlt, hz, h2, _⟩ := at_drop h
    have hr : rd cs (i : Int) = z := rd_get hz
    have hi1 : Ev (fun k => spec_IsSet.l0 k cs (wrap64 ((i : Int) + 1)) n xs) (zs.all (inR n) && upward (z :: zs)) := by
      rw [wrap_id (x := (i : Int) + 1) (by omega) (by omega)]
      have := ih (i + 1) h2
      rw [if_neg (by omega), show ((i + 1 : Nat) : Int) - 1 = (i : Int) by omega, hr] at this
      exact this
    refine Ev.step (fun k => by rw [spec_IsSet.l0]) ?_
    refine ev_pos (by omega) (ev_pos (by omega) ?_)
    rw [hr]
    refine ev_bind0 (l1In_eq _ _ _) (ev_ite (fun e => ?_) (fun e => ev_eq (Ev.now _) ?_))
    · have hz1 : inR n z = true := e
      by_cases h0 : i = 0
      · subst h0
        refine ev_neg (by omega) (ev_eq hi1 ?_)
        rw [if_pos rfl, List.all_cons, hz1, Bool.true_and]
      · rw [wrap_id (x := (i : Int) - 1) (by omega) (by omega)]
        refine ev_pos (by omega) (ev_pos (by omega) (ev_pos (by omega) (ev_ite (fun e2 => ev_eq (Ev.now _) ?_) (fun e2 => ev_eq hi1 ?_))))
        · rw [if_neg h0, show upward (rd cs ((i : Int) - 1) :: z :: zs) = (decide (rd cs ((i : Int) - 1) < z) && upward (z :: zs)) from rfl, decide_eq_false (by omega), Bool.false_and, Bool.and_false]
        · rw [if_neg h0, show upward (rd cs ((i : Int) - 1) :: z :: zs) = (decide (rd cs ((i : Int) - 1) < z) && upward (z :: zs)) from rfl, decide_eq_true (by omega), Bool.true_and, List.all_cons, hz1, Bool.true_and]
    · have hz1 : inR n z = false := by simpa [inR] using e
      rw [List.all_cons, hz1, Bool.false_and, Bool.false_and]
theorem isSetS_ev (n : Int) (xs : List (List Int)) (cs : List Int) (hn : xs.length ≤ 1048576) (ha : cs.length ≤ 1048576) : Ev (fun k => spec_IsSet.f k n xs cs) (isSet n xs cs) := by
  unfold spec_IsSet.f isSet
  refine Ev.bind (isGraph_spec n xs hn) (ev_ite (fun e => ?_) (fun e => ev_eq (Ev.now _) ?_))
  · rw [e, Bool.true_and]
    exact isSetS_l0 n xs cs ha cs 0 rfl
  · rw [show isGraph n xs = false by simpa using e, Bool.false_and]
def freeS (n : Int) (xs : List (List Int)) (s : List Int) : Bool := isSet n xs s && (hits n xs s).all fun a => !decide (a ∈ s)
theorem freeS_l0 (n : Int) (xs : List (List Int)) (s h : List Int) (hn : xs.length ≤ 1048576) (hs : s.length ≤ 1048576) (hh : h.length ≤ 1048576) : ∀ (zs : List Int) (i : Nat), s.drop i = zs → Ev (fun k => spec_IsFree.l0 k s h (i : Int) n xs) ((zs.all fun a => !decide (a ∈ h)) && isSet n xs s) := by
  intro zs
  induction zs with
  | nil =>
    intro i he
    have := at_end he
    refine Ev.step (fun k => by rw [spec_IsFree.l0]) (ev_neg (by omega) (Ev.bind (isSetS_ev n xs s hn hs) (ev_eq (Ev.now _) (by simp))))
  | cons z zs ih =>
    intro i he
    obtain ⟨hlt, hz, h2, _⟩ := at_drop he
    have hr : rd s (i : Int) = z := rd_get hz
    refine Ev.step (fun k => by rw [spec_IsFree.l0]) (ev_pos (by omega) (ev_pos (by omega) ?_))
    rw [hr, wrap_id (by omega) (by omega)]
    refine Ev.bind (l4Has_ev h z (by omega)) (ev_ite (fun e => ev_eq (Ev.now _) ?_) (fun e => ev_eq (ih (i + 1) h2) ?_))
    · rw [List.all_cons, e]
      rfl
    · rw [List.all_cons, show decide (z ∈ h) = false by simpa using e]
      simp
theorem free_spec (n : Int) (xs : List (List Int)) (s : List Int) (hn : xs.length ≤ 1048576) (hs : s.length ≤ 1048576) : Ev (fun k => spec_IsFree.f k n xs s) (freeS n xs s) := by
  unfold spec_IsFree.f freeS
  have hl := hits_len n xs s
  refine Ev.bind (hits_spec n xs s hn hs) (ev_eq (freeS_l0 n xs s _ hn hs (by omega) s 0 rfl) ?_)
  rw [Bool.and_comm, Bool.eq_iff_iff, Bool.and_eq_true, Bool.and_eq_true, List.all_eq_true, List.all_eq_true]
  simp only [Bool.not_eq_true', decide_eq_false_iff_not]
  exact ⟨fun h => ⟨h.1, fun a ha hb => h.2 a hb ha⟩, fun h => ⟨h.1, fun a ha hb => h.2 a hb ha⟩⟩
theorem freeI_l0 (s h : List Int) (hs : s.length ≤ 1048576) (hh : h.length ≤ 1048576) : ∀ (zs : List Int) (i : Nat), h.drop i = zs → Ev (fun k => impl_IsFree.l0 k s h (h.length : Int) (i : Int)) (zs.all fun a => !decide (a ∈ s)) := by
  intro zs
  induction zs with
  | nil =>
    intro i he
    have := at_end he
    refine Ev.step (fun k => by rw [impl_IsFree.l0]) ?_
    exact ev_neg (by omega) (Ev.now _)
  | cons z zs ih =>
    intro i he
    obtain ⟨hlt, hz, h2, _⟩ := at_drop he
    have hr : rd h (i : Int) = z := rd_get hz
    refine Ev.step (fun k => by rw [impl_IsFree.l0]) (ev_pos (by omega) (ev_pos (by omega) (ev_pos (by omega) ?_)))
    rw [hr, wrap_id (by omega) (by omega)]
    refine Ev.bind (containsInt_ev s z (by omega)) (ev_ite (fun e => ev_eq (Ev.now _) ?_) (fun e => ev_eq (ih (i + 1) h2) ?_))
    · rw [List.all_cons, e]
      rfl
    · rw [List.all_cons, show decide (z ∈ s) = false by simpa using e]
      simp
theorem free_impl (n : Int) (xs : List (List Int)) (s : List Int) (hn : xs.length ≤ 1048576) (hs : s.length ≤ 1024) : Ev (fun k => impl_IsFree.f k n xs s) (freeS n xs s) := by
  unfold impl_IsFree.f freeS
  have hl := hits_len n xs s
  refine Ev.bind (isSet_ev n xs s hn (by omega)) (ev_ite (fun e => Ev.bind (hits_impl n xs s hn hs) (ev_eq (freeI_l0 s (hits n xs s) (by omega) (by omega) (hits n xs s) 0 rfl) ?_)) (fun e => ev_eq (Ev.now _) ?_))
  · rw [e, Bool.true_and]
  · rw [show isSet n xs s = false by simpa using e, Bool.false_and]
def defends (n : Int) (xs : List (List Int)) (s : List Int) (c : Int) : Bool := isSet n xs s && (inR n c && (attackers n xs c).all fun a => decide (a ∈ hits n xs s))
theorem defS_l0 (h at_ : List Int) (hh : h.length ≤ 1048576) (ha : at_.length ≤ 1048576) : ∀ (zs : List Int) (i : Nat), at_.drop i = zs → Ev (fun k => spec_Defends.l0 k h at_ (i : Int)) (zs.all fun a => decide (a ∈ h)) := by
  intro zs
  induction zs with
  | nil =>
    intro i he
    have := at_end he
    refine Ev.step (fun k => by rw [spec_Defends.l0]) ?_
    exact ev_neg (by omega) (Ev.now _)
  | cons z zs ih =>
    intro i he
    obtain ⟨hlt, hz, h2, _⟩ := at_drop he
    have hr : rd at_ (i : Int) = z := rd_get hz
    refine Ev.step (fun k => by rw [spec_Defends.l0]) (ev_pos (by omega) (ev_pos (by omega) ?_))
    rw [hr, wrap_id (by omega) (by omega)]
    refine Ev.bind (l4Has_ev h z (by omega)) (ev_ite (fun e => ev_eq (ih (i + 1) h2) ?_) (fun e => ev_eq (Ev.now _) ?_))
    · rw [List.all_cons, e, Bool.true_and]
    · rw [List.all_cons, show decide (z ∈ h) = false by simpa using e, Bool.false_and]
theorem defI_l0 (h at_ : List Int) (hh : h.length ≤ 1048576) (ha : at_.length ≤ 1048576) : ∀ (zs : List Int) (i : Nat), at_.drop i = zs → Ev (fun k => impl_Defends.l0 k h at_ (at_.length : Int) (i : Int)) (zs.all fun a => decide (a ∈ h)) := by
  intro zs
  induction zs with
  | nil =>
    intro i he
    have := at_end he
    refine Ev.step (fun k => by rw [impl_Defends.l0]) ?_
    exact ev_neg (by omega) (Ev.now _)
  | cons z zs ih =>
    intro i he
    obtain ⟨hlt, hz, h2, _⟩ := at_drop he
    have hr : rd at_ (i : Int) = z := rd_get hz
    refine Ev.step (fun k => by rw [impl_Defends.l0]) (ev_pos (by omega) (ev_pos (by omega) (ev_pos (by omega) ?_)))
    rw [hr, wrap_id (by omega) (by omega)]
    refine Ev.bind (containsInt_ev h z (by omega)) (ev_ite (fun e => ev_eq (ih (i + 1) h2) ?_) (fun e => ev_eq (Ev.now _) ?_))
    · rw [List.all_cons, e, Bool.true_and]
    · rw [List.all_cons, show decide (z ∈ h) = false by simpa using e, Bool.false_and]
theorem defends_spec (n : Int) (xs : List (List Int)) (s : List Int) (c : Int) (hn : xs.length ≤ 1048576) (hs : s.length ≤ 1048576) : Ev (fun k => spec_Defends.f k n xs s c) (defends n xs s c) := by
  unfold spec_Defends.f defends
  have hl := hits_len n xs s
  have hal := attackers_length n xs c
  have bad : Ev (fun k => spec_Defends.j0 k s c true n xs) false := Ev.step (fun k => by rw [spec_Defends.j0]) (ev_pos rfl (Ev.now _))
  refine Ev.bind (isSetS_ev n xs s hn hs) (ev_ite (fun e => ev_bind0 (l1In_eq _ _ _) ?_) (fun e => ev_eq bad ?_))
  · rw [e, Bool.true_and]
    have hin : decide (0 ≤ c ∧ c ≤ wrap64 (n - 1)) = inR n c := rfl
    rw [hin]
    cases hc : inR n c with
    | true =>
      refine Ev.step (fun k => by rw [spec_Defends.j0]) (ev_neg (by decide) (Ev.bind (hits_spec n xs s hn hs) (Ev.bind (attackers_spec n xs c hn) ?_)))
      rw [Bool.true_and]
      exact defS_l0 _ _ (by omega) (by omega) _ 0 rfl
    | false =>
      rw [Bool.false_and]
      exact bad
  · rw [show isSet n xs s = false by simpa using e, Bool.false_and]
theorem defends_impl (n : Int) (xs : List (List Int)) (s : List Int) (c : Int) (hn : xs.length ≤ 1048576) (hs : s.length ≤ 1024) : Ev (fun k => impl_Defends.f k n xs s c) (defends n xs s c) := by
  unfold impl_Defends.f defends
  have hl := hits_len n xs s
  have hal := attackers_length n xs c
  have bad : Ev (fun k => impl_Defends.j0 k s c true n xs) false := Ev.step (fun k => by rw [impl_Defends.j0]) (ev_pos rfl (Ev.now _))
  refine Ev.bind (isSet_ev n xs s hn (by omega)) (ev_ite (fun e => ev_bind0 (isClaim_eq _ _ _) ?_) (fun e => ev_eq bad ?_))
  · rw [e, Bool.true_and]
    have hin : decide (0 ≤ c ∧ c ≤ wrap64 (n - 1)) = inR n c := rfl
    rw [hin]
    cases hc : inR n c with
    | true =>
      refine Ev.step (fun k => by rw [impl_Defends.j0]) (ev_neg (by decide) (Ev.bind (hits_impl n xs s hn hs) (Ev.bind (attackers_impl n xs c hn) ?_)))
      rw [Bool.true_and]
      exact defI_l0 _ _ (by omega) (by omega) _ 0 rfl
    | false =>
      rw [Bool.false_and]
      exact bad
  · rw [show isSet n xs s = false by simpa using e, Bool.false_and]
def defended (n : Int) (xs : List (List Int)) (s : List Int) : List Int := if isSet n xs s = true then fromN (defends n xs s) 0 n.toNat else []
theorem isSet_n {n : Int} {xs : List (List Int)} {s : List Int} (h : isSet n xs s = true) : 0 ≤ n ∧ n ≤ 10 := by
  unfold isSet at h
  exact isGraph_n (Bool.and_eq_true_iff.1 h).1
theorem defended_len (n : Int) (xs : List (List Int)) (s : List Int) : (defended n xs s).length ≤ 10 := by
  unfold defended
  split
  · rename_i h
    have h1 := isSet_n h
    have h2 := fromN_len (defends n xs s) n.toNat 0
    omega
  · simp
theorem defdS_l0 (n : Int) (xs : List (List Int)) (s : List Int) (hset : isSet n xs s = true) (hn : xs.length ≤ 1048576) (hs : s.length ≤ 1048576) : ∀ (d i : Nat) (acc : List Int), (i : Int) + d = n → acc.length ≤ i → Ev (fun k => spec_DefendedBy.l0 k s acc (i : Int) n xs) (acc ++ fromN (defends n xs s) i d) := by
  have hb := isSet_n hset
  intro d
  induction d with
  | zero =>
    intro i acc h hl
    refine Ev.step (fun k => by rw [spec_DefendedBy.l0]) (ev_neg (by omega) (Ev.step (fun k => by rw [spec_DefendedBy.j1]) ?_))
    exact ev_neg (by decide) (ev_eq (Ev.now _) (by simp [fromN]))
  | succ d ih =>
    intro i acc h hl
    refine Ev.step (fun k => by rw [spec_DefendedBy.l0]) (ev_pos (by omega) (Ev.bind (isSetS_ev n xs s hn hs) ?_))
    rw [hset]
    refine Ev.step (fun k => by rw [spec_DefendedBy.j1]) (ev_pos rfl (Ev.bind (defends_spec n xs s (i : Int) hn hs) ?_))
    rw [wrap_id (by omega) (by omega)]
    unfold fromN
    refine ev_ite (fun e => ev_pos (by omega) (ev_eq (ih (i + 1) _ (by omega) (by rw [List.length_append, List.length_singleton]; omega)) ?_)) (fun e => ev_eq (ih (i + 1) acc (by omega) (by omega)) ?_)
    · rw [if_pos e, List.append_assoc]
    · rw [if_neg e, List.nil_append]
theorem defended_spec (n : Int) (xs : List (List Int)) (s : List Int) (hn : xs.length ≤ 1048576) (hs : s.length ≤ 1048576) : Ev (fun k => spec_DefendedBy.f k n xs s) (defended n xs s) := by
  unfold spec_DefendedBy.f defended
  by_cases hset : isSet n xs s = true
  · rw [if_pos hset]
    have hb := isSet_n hset
    exact defdS_l0 n xs s hset hn hs n.toNat 0 [] (by omega) (Nat.le_refl _)
  · rw [if_neg hset]
    refine Ev.step (fun k => by rw [spec_DefendedBy.l0]) (ev_ite (fun _ => Ev.bind (isSetS_ev n xs s hn hs) ?_) (fun _ => Ev.step (fun k => by rw [spec_DefendedBy.j1]) (ev_neg (by decide) (Ev.now _))))
    rw [show isSet n xs s = false by simpa using hset]
    exact Ev.step (fun k => by rw [spec_DefendedBy.j1]) (ev_neg (by decide) (Ev.now _))
theorem defdI_l0 (n : Int) (xs : List (List Int)) (s : List Int) (hb : 0 ≤ n ∧ n ≤ 10) (hn : xs.length ≤ 1048576) (hs : s.length ≤ 1024) : ∀ (d i : Nat) (acc : List Int), (i : Int) + d = n → acc.length ≤ i → Ev (fun k => impl_DefendedBy.l0 k s acc n (i : Int) n xs) (acc ++ fromN (defends n xs s) i d) := by
  intro d
  induction d with
  | zero =>
    intro i acc h hl
    exact Ev.step (fun k => by rw [impl_DefendedBy.l0]) (ev_neg (by omega) (ev_eq (Ev.now _) (by simp [fromN])))
  | succ d ih =>
    intro i acc h hl
    refine Ev.step (fun k => by rw [impl_DefendedBy.l0]) (ev_pos (by omega) (Ev.bind (defends_impl n xs s (i : Int) hn hs) ?_))
    rw [wrap_id (by omega) (by omega)]
    unfold fromN
    refine ev_ite (fun e => ev_pos (by omega) (ev_eq (ih (i + 1) _ (by omega) (by rw [List.length_append, List.length_singleton]; omega)) ?_)) (fun e => ev_eq (ih (i + 1) acc (by omega) (by omega)) ?_)
    · rw [if_pos e, List.append_assoc]
    · rw [if_neg e, List.nil_append]
theorem defended_impl (n : Int) (xs : List (List Int)) (s : List Int) (hn : xs.length ≤ 1048576) (hs : s.length ≤ 1024) : Ev (fun k => impl_DefendedBy.f k n xs s) (defended n xs s) := by
  unfold impl_DefendedBy.f defended
  refine ev_bind0 rfl (Ev.bind (isSet_ev n xs s hn (by omega)) (ev_ite (fun e => ?_) (fun e => ?_)))
  · rw [if_pos e]
    have hb := isSet_n e
    exact defdI_l0 n xs s hb hn hs n.toNat 0 [] (by omega) (Nat.le_refl _)
  · rw [if_neg e]
    exact Ev.now _
theorem equalS_l0 (xs ys : List Int) (hn : xs.length ≤ 1048576) (hl : xs.length = ys.length) : ∀ (zs us : List Int) (i : Nat), xs.drop i = zs → ys.drop i = us → Ev (fun k => spec_EqualInts.l0 k xs ys (i : Int)) (decide (zs = us)) := by
  intro zs
  induction zs with
  | nil =>
    intro us i h hu
    have := at_end h
    rw [List.drop_of_length_le (by omega)] at hu
    subst hu
    exact Ev.step (fun k => by rw [spec_EqualInts.l0]) (ev_neg (by omega) (ev_eq (Ev.now _) (by simp)))
  | cons z zs ih =>
    intro us i h hu
    obtain ⟨hlt, hz, h2, _⟩ := at_drop h
    cases us with
    | nil => have := at_end hu; omega
    | cons u us =>
      obtain ⟨_, hzu, hu2, _⟩ := at_drop hu
      refine Ev.step (fun k => by rw [spec_EqualInts.l0]) (ev_pos (by omega) (ev_pos (by omega) (ev_pos (by omega) ?_)))
      rw [rd_get hz, rd_get hzu, wrap_id (by omega) (by omega)]
      exact ev_ite (fun e => ev_eq (ih us (i + 1) h2 hu2) (by simp [e])) (fun e => ev_eq (Ev.now _) (by simp [e]))
theorem equalS_ev (xs ys : List Int) (hn : xs.length ≤ 1048576) : Ev (fun k => spec_EqualInts.f k xs ys) (decide (xs = ys)) := by
  unfold spec_EqualInts.f
  refine ev_ite (fun e => equalS_l0 xs ys hn (by omega) xs ys 0 rfl rfl) (fun e => ev_eq (Ev.now _) ?_)
  exact (decide_eq_false (fun h => e (by rw [h]))).symm
theorem equalI_l0 (xs ys : List Int) (hn : xs.length ≤ 1048576) (hl : xs.length = ys.length) : ∀ (zs us : List Int) (i : Nat), xs.drop i = zs → ys.drop i = us → Ev (fun k => slices_Equal_int_int.l0 k xs ys (xs.length : Int) (i : Int)) (decide (zs = us)) := by
  intro zs
  induction zs with
  | nil =>
    intro us i h hu
    have := at_end h
    rw [List.drop_of_length_le (by omega)] at hu
    subst hu
    exact Ev.step (fun k => by rw [slices_Equal_int_int.l0]) (ev_neg (by omega) (ev_eq (Ev.now _) (by simp)))
  | cons z zs ih =>
    intro us i h hu
    obtain ⟨hlt, hz, h2, _⟩ := at_drop h
    cases us with
    | nil => have := at_end hu; omega
    | cons u us =>
      obtain ⟨_, hzu, hu2, _⟩ := at_drop hu
      refine Ev.step (fun k => by rw [slices_Equal_int_int.l0]) (ev_pos (by omega) (ev_pos (by omega) (ev_pos (by omega) (ev_pos (by omega) ?_))))
      rw [rd_get hz, rd_get hzu, wrap_id (by omega) (by omega)]
      exact ev_ite (fun e => ev_eq (ih us (i + 1) h2 hu2) (by simp [e])) (fun e => ev_eq (Ev.now _) (by simp [e]))
theorem equalI_ev (xs ys : List Int) (hn : xs.length ≤ 1048576) : Ev (fun k => slices_Equal_int_int.f k xs ys) (decide (xs = ys)) := by
  unfold slices_Equal_int_int.f
  refine ev_ite (fun e => equalI_l0 xs ys hn (by omega) xs ys 0 rfl rfl) (fun e => ev_eq (Ev.now _) ?_)
  exact (decide_eq_false (fun h => e (by rw [h]))).symm
def complete (n : Int) (xs : List (List Int)) (s : List Int) : Bool := freeS n xs s && decide (defended n xs s = s)
theorem complete_spec (n : Int) (xs : List (List Int)) (s : List Int) (hn : xs.length ≤ 1048576) (hs : s.length ≤ 1048576) : Ev (fun k => spec_IsComplete.f k n xs s) (complete n xs s) := by
  unfold spec_IsComplete.f complete
  have hl := defended_len n xs s
  refine Ev.bind (free_spec n xs s hn hs) (ev_ite (fun e => Ev.bind (defended_spec n xs s hn hs) (Ev.bind (equalS_ev _ s (by omega)) (ev_eq (Ev.now _) ?_))) (fun e => ev_eq (Ev.now _) ?_))
  · rw [e, Bool.true_and]
  · rw [show freeS n xs s = false by simpa using e, Bool.false_and]
theorem complete_impl (n : Int) (xs : List (List Int)) (s : List Int) (hn : xs.length ≤ 1048576) (hs : s.length ≤ 1024) : Ev (fun k => impl_IsComplete.f k n xs s) (complete n xs s) := by
  unfold impl_IsComplete.f complete
  have hl := defended_len n xs s
  refine Ev.bind (free_impl n xs s hn hs) (ev_ite (fun e => Ev.bind (defended_impl n xs s hn hs) (Ev.bind (equalI_ev _ s (by omega)) (ev_eq (Ev.now _) ?_))) (fun e => ev_eq (Ev.now _) ?_))
  · rw [e, Bool.true_and]
  · rw [show freeS n xs s = false by simpa using e, Bool.false_and]

theorem cmpR_cons (a b : Int) (x y : List Int) : cmpR (a :: x) (b :: y) = if a < b then -1 else if a > b then 1 else cmpR x y := by
  unfold cmpR
  simp only [List.cons_lt_cons_iff]
  by_cases h1 : a < b
  · rw [if_pos (.inl h1), if_pos h1]
  · rw [if_neg h1]
    by_cases h2 : a > b
    · rw [if_neg (by rintro (h | h) <;> omega), if_pos (.inl h2), if_pos h2]
    · rw [if_neg h2]
      have e : a = b := by omega
      subst e
      simp
theorem cmpG_l0 (xs ys : List Int) (hn : xs.length ≤ 1048576) (hm : ys.length ≤ 1048576) : ∀ (zs us : List Int) (i : Nat), xs.drop i = zs → ys.drop i = us → i ≤ xs.length → i ≤ ys.length → Ev (fun k => slices_Compare_int_int.l0 k xs ys xs (xs.length : Int) (i : Int)) (cmpR zs us) := by
  have hc : ∀ x y : Int, cmp_Compare_int.f x y = some (if x < y then -1 else if x > y then 1 else 0) := by
    intro x y
    unfold cmp_Compare_int.f cmp_isNaN_int.f
    simp only [bne_self_eq_false, Option.bind_some, Bool.false_eq_true, if_false]
    split
    · rfl
    · split <;> rfl
  intro zs
  induction zs with
  | nil =>
    intro us i h hu hi hj
    have := at_end h
    refine Ev.step (fun k => by rw [slices_Compare_int_int.l0]) (ev_neg (by omega) ?_)
    cases us with
    | nil =>
      have := at_end hu
      refine ev_neg (by omega) (ev_eq (Ev.now _) ?_)
      simp [cmpR]
    | cons u us =>
      obtain ⟨hlt, _⟩ := at_drop hu
      refine ev_pos (by omega) (ev_eq (Ev.now _) ?_)
      simp [cmpR]
  | cons z zs ih =>
    intro us i h hu hi hj
    obtain ⟨hlt, hz, h2, _⟩ := at_drop h
    refine Ev.step (fun k => by rw [slices_Compare_int_int.l0]) (ev_pos (by omega) (ev_pos (by omega) (ev_pos (by omega) ?_)))
    cases us with
    | nil =>
      have := at_end hu
      refine ev_pos (by omega) (ev_eq (Ev.now _) ?_)
      simp [cmpR]
    | cons u us =>
      obtain ⟨hlu, hzu, hu2, _⟩ := at_drop hu
      refine ev_neg (by omega) (ev_pos (by omega) ?_)
      rw [rd_get hz, rd_get hzu, wrap_id (by omega) (by omega), cmpR_cons]
      refine ev_bind0 (hc z u) ?_
      by_cases h1 : z < u
      · rw [if_pos h1, if_pos h1]
        exact ev_neg (by omega) (Ev.now _)
      · rw [if_neg h1, if_neg h1]
        by_cases h3 : z > u
        · rw [if_pos h3, if_pos h3]
          exact ev_neg (by omega) (Ev.now _)
        · rw [if_neg h3, if_neg h3]
          exact ev_pos rfl (ih us (i + 1) h2 hu2 (by omega) (by omega))
theorem cmpG_ev (xs ys : List Int) (hn : xs.length ≤ 1048576) (hm : ys.length ≤ 1048576) : Ev (fun k => slices_Compare_int_int.f k xs ys) (cmpR xs ys) := by
  unfold slices_Compare_int_int.f
  exact cmpG_l0 xs ys hn hm xs ys 0 rfl rfl (by omega) (by omega)
theorem evAll {α : Type} {β : Type} (g : Nat → α → Option β) (c : α → β) : ∀ l : List α, (∀ x ∈ l, ∃ K, ∀ k, K ≤ k → g k x = some (c x)) → ∃ K, ∀ k, K ≤ k → ∀ x ∈ l, g k x = some (c x) := by
  intro l
  induction l with
  | nil => exact fun _ => ⟨0, fun _ _ x hx => absurd hx (by simp)⟩
  | cons z zs ih =>
    intro h
    obtain ⟨K1, h1⟩ := h z List.mem_cons_self
    obtain ⟨K2, h2⟩ := ih (fun x hx => h x (List.mem_cons_of_mem _ hx))
    refine ⟨max K1 K2, fun k hk x hx => ?_⟩
    rcases List.mem_cons.1 hx with rfl | hx
    · exact h1 k (by omega)
    · exact h2 k (by omega) x hx
theorem evPairs (M : List (List Int)) (h2 : ∀ r ∈ M, r.length ≤ 1048576) : ∃ K, ∀ k, K ≤ k → ∀ x ∈ M, ∀ y ∈ M, slices_Compare_int_int.f k x y = some (cmpR x y) := by
  have h3 : ∀ l : List (List Int), (∀ x ∈ l, x ∈ M) → ∃ K, ∀ k, K ≤ k → ∀ x ∈ l, ∀ y ∈ M, slices_Compare_int_int.f k x y = some (cmpR x y) := by
    intro l
    induction l with
    | nil => exact fun _ => ⟨0, fun _ _ x hx => absurd hx (by simp)⟩
    | cons z zs ih =>
      intro hl
      obtain ⟨K1, e1⟩ := evAll (fun k y => slices_Compare_int_int.f k z y) (fun y => cmpR z y) M (fun y hy => cmpG_ev z y (h2 z (hl z List.mem_cons_self)) (h2 y hy))
      obtain ⟨K2, e2⟩ := ih (fun x hx => hl x (List.mem_cons_of_mem _ hx))
      refine ⟨max K1 K2, fun k hk x hx => ?_⟩
      rcases List.mem_cons.1 hx with rfl | hx
      · exact e1 k (by omega)
      · exact e2 k (by omega) x hx
  exact h3 M (fun _ h => h)
theorem sortR_pw (L : List (List Int)) : (sortR L).Pairwise (fun x y => ¬ y < x) := by
  have := List.pairwise_mergeSort (le := fun x y : List Int => decide (¬ y < x)) (fun a b c h1 h2 => by
    rw [decide_eq_true_eq] at h1 h2 ⊢
    exact List.le_trans h1 h2) (fun a b => by
    rw [Bool.or_eq_true, decide_eq_true_eq, decide_eq_true_eq]
    exact List.le_total a b) L
  exact List.Pairwise.imp (fun {a b} h => of_decide_eq_true h) this
theorem sortR_p (L : List (List Int)) : (sortR L).Perm L := List.mergeSort_perm L _
theorem sort_uniq (T L : List (List Int)) (hT : T.Pairwise (fun x y => ¬ y < x)) (hp : T.Perm L) : T = sortR L :=
  List.Perm.eq_of_pairwise (le := fun x y => ¬ y < x) (fun a b _ _ hab hba => List.le_antisymm hab hba) hT (sortR_pw L) (hp.trans (sortR_p L).symm)
theorem sortR_congr {L M : List (List Int)} (h : L.Perm M) : sortR L = sortR M := sort_uniq _ _ (sortR_pw L) ((sortR_p L).trans h)
theorem ins_sorted (A B : List (List Int)) (s : List Int) (h : (A ++ B).Pairwise (fun x y => ¬ y < x)) (ha : ∀ a ∈ A, ¬ s < a) (hb : ∀ b ∈ B, ¬ b < s) : (A ++ [s] ++ B).Pairwise (fun x y => ¬ y < x) := by
  rw [List.pairwise_append] at h
  rw [List.append_assoc, List.pairwise_append]
  refine ⟨h.1, ?_, fun a ha2 b hb2 => ?_⟩
  · rw [List.singleton_append]
    exact List.pairwise_cons.2 ⟨hb, h.2.1⟩
  · rcases List.mem_append.1 hb2 with h3 | h3
    · rw [List.mem_singleton.1 h3]
      exact ha a ha2
    · exact h.2.2 a ha2 b h3
/-! the claims of a mask -/
theorem bits_and1 (n : Nat) (h : n < 9223372036854775808) : Go.bits .and .i64 (n : Int) 1 = ((n % 2 : Nat) : Int) := by
  show IntKind.i64.wrap ((BitVec.ofInt 64 (n : Int) &&& BitVec.ofInt 64 1).toNat : Int) = _
  have e : (BitVec.ofInt 64 (n : Int) &&& BitVec.ofInt 64 1).toNat = n % 2 := by
    rw [BitVec.ofInt_natCast, show BitVec.ofInt 64 1 = BitVec.ofNat 64 1 from rfl, BitVec.toNat_and, BitVec.toNat_ofNat, BitVec.toNat_ofNat, Nat.mod_eq_of_lt (show n < 2 ^ 64 by omega), Nat.mod_eq_of_lt (show 1 < 2 ^ 64 by decide), Nat.and_one_is_mod]
  rw [e]
  simp only [i64_w]
  exact wrap_id (x := ((n % 2 : Nat) : Int)) (by omega) (by omega)
def bitAt (m : Int) (i : Int) : Bool := decide (Go.bits .and .i64 (shr .i64 m i) 1 = 1)
theorem bitAt_eq (μ i : Nat) (hμ : μ < 9223372036854775808) (hi : i < 64) : bitAt (μ : Int) (i : Int) = μ.testBit i := by
  have h1 : shr .i64 (μ : Int) (i : Int) = ((μ / 2 ^ i : Nat) : Int) := by
    unfold shr
    rw [Int.toNat_natCast, show min i IntKind.i64.bits = i from Nat.min_eq_left (by show i ≤ 64; omega)]
    simp
  have h2 : μ / 2 ^ i ≤ μ := Nat.div_le_self _ _
  unfold bitAt
  rw [h1, bits_and1 _ (by omega), Nat.testBit_eq_decide_div_mod_eq]
  exact decide_eq_decide.2 (by omega)
theorem shl_pow : ∀ n : Fin 13, shl .i64 1 ((n.val : Nat) : Int) = ((2 ^ n.val : Nat) : Int) := by decide +kernel
theorem shl_n {n : Int} (h : 0 ≤ n ∧ n ≤ 10) : shl .i64 1 n = ((2 ^ n.toNat : Nat) : Int) := by
  have := shl_pow ⟨n.toNat, by omega⟩
  rwa [show (((⟨n.toNat, by omega⟩ : Fin 13).val : Nat) : Int) = n by show (n.toNat : Int) = n; omega] at this
theorem pow_le {n : Int} (h : 0 ≤ n ∧ n ≤ 10) : 2 ^ n.toNat ≤ 1024 := Nat.pow_le_pow_right (n := 2) (by decide) (show n.toNat ≤ 10 by omega)
def subsetOf (n m : Int) : List Int := fromN (bitAt m) 0 n.toNat
theorem subset_inj {n : Int} (h : 0 ≤ n ∧ n ≤ 10) {a b : Nat} (ha : a < 2 ^ n.toNat) (hb : b < 2 ^ n.toNat) (e : subsetOf n (a : Int) = subsetOf n (b : Int)) : a = b := by
  have hp := pow_le h
  refine Nat.eq_of_testBit_eq fun i => ?_
  by_cases hi : i < n.toNat
  · have h1 : ((i : Int) ∈ subsetOf n (a : Int)) ↔ ((i : Int) ∈ subsetOf n (b : Int)) := by rw [e]
    unfold subsetOf at h1
    rw [fromN_mem, fromN_mem, bitAt_eq a i (by omega) (by omega), bitAt_eq b i (by omega) (by omega)] at h1
    rw [Bool.eq_iff_iff]
    exact ⟨fun h => (h1.1 ⟨by omega, h⟩).2, fun h => (h1.2 ⟨by omega, h⟩).2⟩
  · have h2 : 2 ^ n.toNat ≤ 2 ^ i := Nat.pow_le_pow_right (by decide) (by omega)
    rw [Nat.testBit_lt_two_pow (by omega), Nat.testBit_lt_two_pow (by omega)]
def compl (n : Int) (xs : List (List Int)) : Nat → Nat → List (List Int)
  | _, 0 => []
  | m, d + 1 => (if complete n xs (subsetOf n (m : Int)) = true then [subsetOf n (m : Int)] else []) ++ compl n xs (m + 1) d
theorem compl_mem (n : Int) (xs : List (List Int)) (y : List Int) : ∀ d m : Nat, y ∈ compl n xs m d → ∃ j : Nat, m ≤ j ∧ j < m + d ∧ y = subsetOf n (j : Int) := by
  intro d
  induction d with
  | zero => exact fun m h => absurd h (by simp [compl])
  | succ d ih =>
    intro m h
    unfold compl at h
    rcases List.mem_append.1 h with h | h
    · split at h
      · exact ⟨m, by omega, by omega, List.mem_singleton.1 h⟩
      · simp at h
    · obtain ⟨j, h1, h2, h3⟩ := ih (m + 1) h
      exact ⟨j, by omega, by omega, h3⟩
theorem compl_len (n : Int) (xs : List (List Int)) : ∀ d m : Nat, (compl n xs m d).length ≤ d := by
  intro d
  induction d with
  | zero => exact fun m => Nat.le_refl _
  | succ d ih =>
    intro m
    unfold compl
    have := ih (m + 1)
    rw [List.length_append]
    split
    · rw [List.length_singleton]; omega
    · rw [List.length_nil]; omega
theorem compl_nodup (n : Int) (xs : List (List Int)) (h : 0 ≤ n ∧ n ≤ 10) : ∀ d m : Nat, m + d ≤ 2 ^ n.toNat → (compl n xs m d).Nodup := by
  intro d
  induction d with
  | zero => exact fun m _ => List.nodup_nil
  | succ d ih =>
    intro m hm
    unfold compl
    split
    · rw [List.singleton_append, List.nodup_cons]
      refine ⟨fun hin => ?_, ih (m + 1) (by omega)⟩
      obtain ⟨j, h1, h2, h3⟩ := compl_mem n xs _ d (m + 1) hin
      have := subset_inj h (by omega) (by omega) h3
      omega
    · exact ih (m + 1) (by omega)
theorem subset_len {n : Int} (h : 0 ≤ n ∧ n ≤ 10) (m : Int) : (subsetOf n m).length ≤ 10 := by
  have := fromN_len (bitAt m) n.toNat 0
  unfold subsetOf
  omega
theorem before_l0 (xs ys : List Int) (hn : xs.length ≤ 1048576) (hm : ys.length ≤ 1048576) : ∀ (zs us : List Int) (i : Nat), xs.drop i = zs → ys.drop i = us → i ≤ xs.length → i ≤ ys.length → Ev (fun k => spec_l7Before.l0 k xs ys (i : Int)) (decide (zs < us)) := by
  intro zs
  induction zs with
  | nil =>
    intro us i h hu hi hj
    have := at_end h
    refine Ev.step (fun k => by rw [spec_l7Before.l0]) (ev_neg (by omega) (Ev.step (fun k => by rw [spec_l7Before.j1]) (ev_neg (by decide) (ev_eq (Ev.now _) ?_))))
    cases us with
    | nil =>
      have := at_end hu
      rw [decide_eq_false (by omega)]
      simp
    | cons u us =>
      obtain ⟨hlt, _⟩ := at_drop hu
      rw [decide_eq_true (by omega)]
      simp
  | cons z zs ih =>
    intro us i h hu hi hj
    obtain ⟨hlt, hz, h2, _⟩ := at_drop h
    refine Ev.step (fun k => by rw [spec_l7Before.l0]) (ev_pos (by omega) ?_)
    cases us with
    | nil =>
      have := at_end hu
      rw [decide_eq_false (by omega)]
      refine Ev.step (fun k => by rw [spec_l7Before.j1]) (ev_neg (by decide) (ev_eq (Ev.now _) ?_))
      rw [decide_eq_false (by omega)]
      simp
    | cons u us =>
      obtain ⟨hlu, hzu, hu2, _⟩ := at_drop hu
      rw [decide_eq_true (by omega)]
      refine Ev.step (fun k => by rw [spec_l7Before.j1]) (ev_pos rfl (ev_pos (by omega) (ev_pos (by omega) (ev_pos (by omega) ?_))))
      rw [rd_get hz, rd_get hzu, wrap_id (by omega) (by omega)]
      refine ev_ite (fun e => ev_eq (ih us (i + 1) h2 hu2 (by omega) (by omega)) ?_) (fun e => ev_eq (Ev.now _) ?_)
      · refine decide_eq_decide.2 ?_
        rw [List.cons_lt_cons_iff]
        exact ⟨fun h => .inr ⟨e, h⟩, fun h => h.elim (fun h => by omega) (fun h => h.2)⟩
      · refine decide_eq_decide.2 ?_
        rw [List.cons_lt_cons_iff]
        exact ⟨fun h => .inl h, fun h => h.elim id (fun h => absurd h.1 e)⟩
theorem before_ev (xs ys : List Int) (hn : xs.length ≤ 1048576) (hm : ys.length ≤ 1048576) : Ev (fun k => spec_l7Before.f k xs ys) (decide (xs < ys)) := by
  unfold spec_l7Before.f
  exact before_l0 xs ys hn hm xs ys 0 rfl rfl (by omega) (by omega)
theorem allS_l1 (n : Int) (xs T : List (List Int)) (m : Int) (hb : 0 ≤ n ∧ n ≤ 10) (R : List (List Int)) : ∀ (d i : Nat) (acc : List Int), (i : Int) + d = n → acc.length ≤ i → Ev (fun k => (spec_IsComplete.f k n xs (acc ++ fromN (bitAt m) i d)).bind fun t => if t = true then spec_AllComplete.l2 k T m (acc ++ fromN (bitAt m) i d) (T.length : Int) n xs else spec_AllComplete.l0 k T (wrap64 (m + 1)) n xs) R → Ev (fun k => spec_AllComplete.l1 k T m acc (i : Int) n xs) R := by
  intro d
  induction d with
  | zero =>
    intro i acc h hl hR
    rw [show acc ++ fromN (bitAt m) i 0 = acc by simp [fromN]] at hR
    exact Ev.step (fun k => by rw [spec_AllComplete.l1]) (ev_neg (by omega) hR)
  | succ d ih =>
    intro i acc h hl hR
    refine Ev.step (fun k => by rw [spec_AllComplete.l1]) (ev_pos (by omega) (ev_pos (by omega) ?_))
    rw [wrap_id (by omega) (by omega)]
    have hf : acc ++ fromN (bitAt m) i (d + 1) = (acc ++ if bitAt m (i : Int) = true then [(i : Int)] else []) ++ fromN (bitAt m) (i + 1) d := by
      rw [List.append_assoc]
      rfl
    rw [hf] at hR
    refine ev_ite (fun e => ev_bind0 rfl (ev_pos (by rw [List.length_singleton]; omega) ?_)) (fun e => ?_)
    · rw [if_pos (show bitAt m (i : Int) = true from decide_eq_true e)] at hR
      exact ih (i + 1) _ (by omega) (by rw [List.length_append, List.length_singleton]; omega) hR
    · rw [if_neg (show ¬ bitAt m (i : Int) = true from fun h => e (of_decide_eq_true h)), List.append_nil] at hR
      exact ih (i + 1) acc (by omega) (by omega) hR
theorem allS_l2 (n : Int) (xs T : List (List Int)) (m : Int) (s : List Int) (R : List (List Int)) (hT : T.Pairwise (fun x y => ¬ y < x)) (hl : T.length ≤ 1048576) (hi : ∀ y ∈ T, y.length ≤ 1048576) (hs : s.length ≤ 1048576) (hR : ∀ T' : List (List Int), T'.Pairwise (fun x y => ¬ y < x) → T'.Perm (T ++ [s]) → Ev (fun k => spec_AllComplete.l0 k T' (wrap64 (m + 1)) n xs) R) : ∀ j : Nat, j ≤ T.length → (∀ y ∈ T.drop j, s < y) → Ev (fun k => spec_AllComplete.l2 k T m s (j : Int) n xs) R := by
  have put : ∀ j : Nat, j ≤ T.length → (∀ a ∈ T.take j, ¬ s < a) → (∀ y ∈ T.drop j, s < y) → Ev (fun k => spec_AllComplete.l0 k (T.take j ++ [s] ++ T.drop j) (wrap64 (m + 1)) n xs) R := by
    intro j _ h1 h2
    refine hR _ (ins_sorted _ _ s (by rw [List.take_append_drop]; exact hT) h1 (fun b hb => List.lt_asymm (h2 b hb))) ?_
    refine List.Perm.trans ?_ (List.Perm.append_right [s] (List.Perm.of_eq (List.take_append_drop j T)))
    rw [List.append_assoc, List.append_assoc]
    exact List.Perm.append_left _ List.perm_append_comm
  intro j
  induction j with
  | zero =>
    intro hj hd
    refine Ev.step (fun k => by rw [spec_AllComplete.l2]) ?_
    refine ev_neg (by omega) (ev_bind0 rfl (ev_pos (by omega) (ev_pos (by omega) (ev_bind0 rfl (ev_pos ?_ (ev_bind0 rfl (ev_bind0 rfl (ev_pos ?_ (ev_bind0 rfl (ev_bind0 rfl (ev_pos ?_ ?_)))))))))))
    · simp
    · simp
    · simp; omega
    · have := put 0 (by omega) (by simp) hd
      simpa using this
  | succ j ih =>
    intro hj hd
    have hz : T[j]? = some T[j] := List.getElem?_eq_getElem (by omega)
    have hr : rd_L1 T (j : Int) = T[j] := getD_at hz
    have hw : wrap64 (((j + 1 : Nat) : Int) - 1) = (j : Int) := by rw [wrap_id (by omega) (by omega)]; omega
    refine Ev.step (fun k => by rw [spec_AllComplete.l2]) ?_
    rw [hw, hr]
    refine ev_pos (by omega) (ev_pos (by omega) (ev_pos (by omega) (Ev.bind (before_ev s T[j] hs (hi _ (List.getElem_mem _))) (ev_ite (fun e => ih (by omega) (fun y hy => ?_)) (fun e => ?_)))))
    · rw [List.drop_eq_getElem_cons (by omega)] at hy
      rcases List.mem_cons.1 hy with rfl | hy
      · exact of_decide_eq_true e
      · exact hd y hy
    · have e : ¬ s < T[j] := fun h => e (decide_eq_true h)
      refine ev_bind0 rfl (ev_pos (by omega) (ev_pos (by omega) (ev_bind0 rfl (ev_pos ?_ (ev_bind0 rfl (ev_bind0 rfl (ev_pos ?_ (ev_bind0 rfl (ev_bind0 rfl (ev_pos ?_ ?_))))))))))
      · simp only [List.length_nil, List.length_take, Int.toNat_natCast]; omega
      · simp only [List.length_nil, List.length_append, List.length_take, List.length_singleton, Int.toNat_natCast]; omega
      · simp only [List.length_nil, List.length_append, List.length_take, List.length_drop, List.length_singleton, Int.toNat_natCast]; omega
      · rw [Int.toNat_natCast, List.nil_append]
        refine put (j + 1) hj (fun a ha => ?_) hd
        rw [take_at hz] at ha
        rcases List.mem_append.1 ha with ha | ha
        · have h3 := hT
          rw [← List.take_append_drop j T, List.pairwise_append] at h3
          have h4 := h3.2.2 a ha T[j] (by rw [List.drop_eq_getElem_cons (by omega)]; exact List.mem_cons_self)
          exact List.le_trans h4 e
        · rw [List.mem_singleton.1 ha]
          exact e
theorem allS_l0 (n : Int) (xs : List (List Int)) (hb : 0 ≤ n ∧ n ≤ 10) (hn : xs.length ≤ 1048576) : ∀ (d m : Nat) (T : List (List Int)), m + d = 2 ^ n.toNat → T.Pairwise (fun x y => ¬ y < x) → T.length ≤ m → (∀ y ∈ T, y.length ≤ 10) → Ev (fun k => spec_AllComplete.l0 k T (m : Int) n xs) (sortR (T ++ compl n xs m d)) := by
  have hp := pow_le hb
  intro d
  induction d with
  | zero =>
    intro m T h hT hl hi
    refine Ev.step (fun k => by rw [spec_AllComplete.l0]) (ev_pos hb.1 ?_)
    rw [shl_n hb]
    refine ev_neg (by omega) (ev_eq (Ev.now _) ?_)
    rw [show compl n xs m 0 = [] from rfl, List.append_nil]
    exact sort_uniq T T hT (List.Perm.refl _)
  | succ d ih =>
    intro m T h hT hl hi
    have hsl := subset_len hb (m : Int)
    refine Ev.step (fun k => by rw [spec_AllComplete.l0]) (ev_pos hb.1 ?_)
    rw [shl_n hb]
    refine ev_pos (by omega) ?_
    refine allS_l1 n xs T (m : Int) hb _ n.toNat 0 [] (by omega) (by simp) ?_
    rw [List.nil_append, show fromN (bitAt (m : Int)) 0 n.toNat = subsetOf n (m : Int) from rfl]
    have hc : compl n xs m (d + 1) = (if complete n xs (subsetOf n (m : Int)) = true then [subsetOf n (m : Int)] else []) ++ compl n xs (m + 1) d := rfl
    rw [hc]
    refine Ev.bind (complete_spec n xs _ hn (by omega)) (ev_ite (fun e => ?_) (fun e => ?_))
    · rw [if_pos e]
      refine allS_l2 n xs T (m : Int) _ _ hT (by omega) (fun y hy => Nat.le_trans (hi y hy) (by omega)) (by omega) (fun T' h1 h2 => ?_) T.length (Nat.le_refl _) (fun y hy => absurd hy (by simp))
      rw [wrap_id (by omega) (by omega)]
      refine ev_eq (ih (m + 1) T' (by omega) h1 (by rw [h2.length_eq, List.length_append, List.length_singleton]; omega) (fun y hy => ?_)) ?_
      · rcases List.mem_append.1 (h2.mem_iff.1 hy) with h3 | h3
        · exact hi y h3
        · rw [List.mem_singleton.1 h3]
          exact hsl
      · rw [← List.append_assoc]
        exact sortR_congr (List.Perm.append_right _ h2)
    · rw [if_neg e, List.nil_append, wrap_id (by omega) (by omega)]
      exact ih (m + 1) T (by omega) hT (by omega) hi
def allV (n : Int) (xs : List (List Int)) : List (List Int) := if isGraph n xs = true then sortR (compl n xs 0 (2 ^ n.toNat)) else []
theorem all_spec (n : Int) (xs : List (List Int)) (hn : xs.length ≤ 1048576) : Ev (fun k => spec_AllComplete.f k n xs) (allV n xs) := by
  unfold spec_AllComplete.f allV
  refine ev_bind0 rfl (Ev.bind (isGraph_spec n xs hn) (ev_ite (fun e => ?_) (fun e => ?_)))
  · rw [if_pos e]
    exact allS_l0 n xs (isGraph_n e) hn (2 ^ n.toNat) 0 [] (by omega) List.Pairwise.nil (Nat.le_refl _) (fun y hy => absurd hy (by simp))
  · rw [if_neg e]
    exact Ev.now _
theorem allI_l1 (n : Int) (xs T : List (List Int)) (m N : Int) (hb : 0 ≤ n ∧ n ≤ 10) (R : List (List Int)) : ∀ (d i : Nat) (acc : List Int), (i : Int) + d = n → acc.length ≤ i → Ev (fun k => (impl_IsComplete.f k n xs (acc ++ fromN (bitAt m) i d)).bind fun t => if t = true then (if T.length < 5864062014805 then impl_AllComplete.l0 k (T ++ [acc ++ fromN (bitAt m) i d]) N (wrap64 (m + 1)) n xs else none) else impl_AllComplete.l0 k T N (wrap64 (m + 1)) n xs) R → Ev (fun k => impl_AllComplete.l1 k T m acc N m n (i : Int) n xs) R := by
  intro d
  induction d with
  | zero =>
    intro i acc h hl hR
    rw [show acc ++ fromN (bitAt m) i 0 = acc by simp [fromN]] at hR
    exact Ev.step (fun k => by rw [impl_AllComplete.l1]) (ev_neg (by omega) hR)
  | succ d ih =>
    intro i acc h hl hR
    refine Ev.step (fun k => by rw [impl_AllComplete.l1]) (ev_pos (by omega) (ev_pos (by omega) ?_))
    rw [wrap_id (x := (i : Int) + 1) (by omega) (by omega)]
    have hf : acc ++ fromN (bitAt m) i (d + 1) = (acc ++ if bitAt m (i : Int) = true then [(i : Int)] else []) ++ fromN (bitAt m) (i + 1) d := by
      rw [List.append_assoc]
      rfl
    rw [hf] at hR
    refine ev_ite (fun e => ev_pos (by omega) ?_) (fun e => ?_)
    · rw [if_pos (show bitAt m (i : Int) = true from decide_eq_true e)] at hR
      exact ih (i + 1) _ (by omega) (by rw [List.length_append, List.length_singleton]; omega) hR
    · rw [if_neg (show ¬ bitAt m (i : Int) = true from fun h => e (of_decide_eq_true h)), List.append_nil] at hR
      exact ih (i + 1) acc (by omega) (by omega) hR
theorem allI_l0 (n : Int) (xs : List (List Int)) (hb : 0 ≤ n ∧ n ≤ 10) (hn : xs.length ≤ 1048576) : ∀ (d m : Nat) (T : List (List Int)), m + d = 2 ^ n.toNat → T.length ≤ m → (∀ y ∈ T, y.length ≤ 10) → Ev (fun k => impl_AllComplete.l0 k T ((2 ^ n.toNat : Nat) : Int) (m : Int) n xs) (sortR (T ++ compl n xs m d)) := by
  have hp := pow_le hb
  intro d
  induction d with
  | zero =>
    intro m T h hl hi
    obtain ⟨K, hK⟩ := evPairs T (fun y hy => Nat.le_trans (hi y hy) (by omega))
    refine Ev.step (fun k => by rw [impl_AllComplete.l0]) (ev_neg (by omega) ?_)
    rw [show compl n xs m 0 = [] from rfl, List.append_nil]
    refine Ev.bind (a := sortR T) ⟨K, fun k hk => ?_⟩ (Ev.now _)
    unfold slices_SortFunc_int_int.f
    exact if_pos ⟨rfl, by omega, hK k hk⟩
  | succ d ih =>
    intro m T h hl hi
    have hsl := subset_len hb (m : Int)
    refine Ev.step (fun k => by rw [impl_AllComplete.l0]) (ev_pos (by omega) ?_)
    refine allI_l1 n xs T (m : Int) _ hb _ n.toNat 0 [] (by omega) (by simp) ?_
    rw [List.nil_append, show fromN (bitAt (m : Int)) 0 n.toNat = subsetOf n (m : Int) from rfl]
    have hc : compl n xs m (d + 1) = (if complete n xs (subsetOf n (m : Int)) = true then [subsetOf n (m : Int)] else []) ++ compl n xs (m + 1) d := rfl
    rw [hc, wrap_id (by omega) (by omega)]
    refine Ev.bind (complete_impl n xs _ hn (by omega)) (ev_ite (fun e => ev_pos (by omega) ?_) (fun e => ?_))
    · rw [if_pos e, ← List.append_assoc]
      refine ih (m + 1) _ (by omega) (by rw [List.length_append, List.length_singleton]; omega) (fun y hy => ?_)
      rcases List.mem_append.1 hy with h3 | h3
      · exact hi y h3
      · rw [List.mem_singleton.1 h3]
        exact hsl
    · rw [if_neg e, List.nil_append]
      exact ih (m + 1) T (by omega) (by omega) hi
theorem all_impl (n : Int) (xs : List (List Int)) (hn : xs.length ≤ 1048576) : Ev (fun k => impl_AllComplete.f k n xs) (allV n xs) := by
  unfold impl_AllComplete.f allV
  refine ev_bind0 rfl (Ev.bind (isGraph_impl n xs hn) (ev_ite (fun e => ?_) (fun e => ?_)))
  · rw [if_pos e]
    have hb := isGraph_n e
    refine ev_pos hb.1 ?_
    rw [shl_n hb]
    exact allI_l0 n xs hb hn (2 ^ n.toNat) 0 [] (by omega) (Nat.le_refl _) (fun y hy => absurd hy (by simp))
  · rw [if_neg e]
    exact Ev.now _
theorem allV_facts (n : Int) (xs : List (List Int)) : (allV n xs).length ≤ 1024 ∧ (allV n xs).Nodup ∧ ∀ y ∈ allV n xs, y.length ≤ 10 ∧ y.Pairwise (· < ·) := by
  unfold allV
  by_cases e : isGraph n xs = true
  · rw [if_pos e]
    have hb := isGraph_n e
    have hp := pow_le hb
    have hl := compl_len n xs (2 ^ n.toNat) 0
    refine ⟨by rw [sortR_len]; omega, (sortR_p _).nodup_iff.2 (compl_nodup n xs hb _ 0 (by omega)), fun y hy => ?_⟩
    obtain ⟨j, _, _, rfl⟩ := compl_mem n xs y _ 0 ((sortR_p _).mem_iff.1 hy)
    exact ⟨subset_len hb _, fromN_asc _ _ _⟩
  · rw [if_neg e]
    exact ⟨by simp, List.nodup_nil, fun y hy => absurd hy (by simp)⟩
def partB (a b : List Int) : Bool := a.all fun x => decide (x ∈ b)
theorem asc_sublist : ∀ (z a : List Int), a.Pairwise (· < ·) → z.Pairwise (· < ·) → (∀ x ∈ a, x ∈ z) → a.Sublist z := by
  intro z
  induction z with
  | nil =>
    intro a _ _ h
    cases a with
    | nil => exact List.Sublist.refl _
    | cons x a => exact absurd (h x List.mem_cons_self) (by simp)
  | cons y z ih =>
    intro a ha hz h
    obtain ⟨z1, z2⟩ := List.pairwise_cons.1 hz
    cases a with
    | nil => exact List.nil_sublist _
    | cons x a =>
      obtain ⟨a1, a2⟩ := List.pairwise_cons.1 ha
      rcases List.mem_cons.1 (h x List.mem_cons_self) with rfl | hx
      · refine List.Sublist.cons_cons x (ih a a2 z2 (fun t ht => ?_))
        have h1 := a1 t ht
        rcases List.mem_cons.1 (h t (List.mem_cons_of_mem _ ht)) with rfl | h2
        · omega
        · exact h2
      · refine List.Sublist.cons y (ih (x :: a) ha z2 (fun t ht => ?_))
        have hyx := z1 x hx
        rcases List.mem_cons.1 (h t ht) with rfl | h2
        · rcases List.mem_cons.1 ht with rfl | h3
          · exact hx
          · have := a1 t h3
            omega
        · exact h2
def notIn (a : List Int) (i : Nat) : Nat → List (List Int) → Bool
  | _, [] => true
  | j, z :: zs => (decide (j = i) || !partB a z) && notIn a i (j + 1) zs
theorem notIn_iff (a : List Int) (i : Nat) : ∀ (zs : List (List Int)) (j : Nat), notIn a i j zs = true ↔ ∀ (t : Nat) (z : List Int), zs[t]? = some z → j + t ≠ i → partB a z = false := by
  intro zs
  induction zs with
  | nil => exact fun j => ⟨fun _ t z h => by simp at h, fun _ => rfl⟩
  | cons y zs ih =>
    intro j
    unfold notIn
    rw [Bool.and_eq_true, ih (j + 1), Bool.or_eq_true, decide_eq_true_eq, Bool.not_eq_true']
    constructor
    · rintro ⟨h1, h2⟩ t z hz hne
      cases t with
      | zero =>
        simp only [List.getElem?_cons_zero, Option.some.injEq] at hz
        subst hz
        rcases h1 with h1 | h1
        · omega
        · exact h1
      | succ t =>
        rw [List.getElem?_cons_succ] at hz
        exact h2 t z hz (by omega)
    · intro h
      refine ⟨?_, fun t z hz hne => h (t + 1) z (by rw [List.getElem?_cons_succ]; exact hz) (by omega)⟩
      by_cases e : j = i
      · exact .inl e
      · exact .inr (h 0 y rfl (by omega))
def keepP (l : List (List Int)) (a : List Int) : Bool := !(l.any fun b => decide (b.length > a.length) && partB a b)
theorem notIn_keep (l : List (List Int)) (hd : l.Nodup) (hu : ∀ y ∈ l, y.Pairwise (· < ·)) (i : Nat) (a : List Int) (ha : l[i]? = some a) : notIn a i 0 l = keepP l a := by
  rw [Bool.eq_iff_iff, notIn_iff]
  unfold keepP
  rw [Bool.not_eq_true', List.any_eq_false]
  have ham := List.mem_of_getElem? ha
  constructor
  · intro h b hb hc
    rw [Bool.and_eq_true, decide_eq_true_eq] at hc
    obtain ⟨j, hj⟩ := List.getElem?_of_mem hb
    have := h j b hj (by
      rintro rfl
      rw [Nat.zero_add] at ha
      rw [ha] at hj
      obtain rfl := Option.some.inj hj
      omega)
    rw [this] at hc
    exact absurd hc.2 (by decide)
  · intro h t z hz hne
    have hzm := List.mem_of_getElem? hz
    rw [Nat.zero_add] at hne
    cases hp : partB a z with
    | false => rfl
    | true =>
      exfalso
      have hp2 : ∀ x ∈ a, x ∈ z := fun x hx => of_decide_eq_true (List.all_eq_true.1 hp x hx)
      have hs := asc_sublist z a (hu a ham) (hu z hzm) hp2
      have hle := hs.length_le
      by_cases hl : z.length > a.length
      · refine h z hzm ?_
        rw [hp, decide_eq_true hl]
        rfl
      · have he := hs.eq_of_length (by omega)
        subst he
        obtain ⟨h1, e1⟩ := List.getElem?_eq_some_iff.1 ha
        obtain ⟨h2, e2⟩ := List.getElem?_eq_some_iff.1 hz
        have hpw := List.pairwise_iff_getElem.1 hd
        rcases Nat.lt_trichotomy i t with hlt | rfl | hlt
        · exact hpw i t h1 h2 hlt (by rw [e1, e2])
        · exact hne rfl
        · exact hpw t i h2 h1 hlt (by rw [e1, e2])
theorem part_l0 (xs ys : List Int) (hn : xs.length ≤ 1048576) (hm : ys.length ≤ 1048576) : ∀ (zs : List Int) (i : Nat), xs.drop i = zs → Ev (fun k => spec_l7Part.l0 k xs ys (i : Int)) (partB zs ys) := by
  intro zs
  induction zs with
  | nil =>
    intro i h
    have := at_end h
    refine Ev.step (fun k => by rw [spec_l7Part.l0]) ?_
    exact ev_neg (by omega) (Ev.now _)
  | cons z zs ih =>
    intro i h
    obtain ⟨hlt, hz, h2, _⟩ := at_drop h
    refine Ev.step (fun k => by rw [spec_l7Part.l0]) (ev_pos (by omega) (ev_pos (by omega) ?_))
    rw [rd_get hz, wrap_id (by omega) (by omega)]
    unfold partB
    refine Ev.bind (l4Has_ev ys z (by omega)) (ev_ite (fun e => ev_eq (ih (i + 1) h2) ?_) (fun e => ev_eq (Ev.now _) ?_))
    · rw [List.all_cons, e, Bool.true_and]
      rfl
    · rw [List.all_cons, show decide (z ∈ ys) = false by simpa using e, Bool.false_and]
theorem part_ev (xs ys : List Int) (hn : xs.length ≤ 1048576) (hm : ys.length ≤ 1048576) : Ev (fun k => spec_l7Part.f k xs ys) (partB xs ys) := by
  unfold spec_l7Part.f
  exact part_l0 xs ys hn hm xs 0 rfl
theorem prefS_l1 (l acc : List (List Int)) (hl : l.length ≤ 1024) (hi : ∀ y ∈ l, y.length ≤ 10) (i : Nat) (a : List Int) (ha : l[i]? = some a) (hacc : acc.length ≤ 1024) (R : List (List Int)) : ∀ (zs : List (List Int)) (j : Nat) (b : Bool), l.drop j = zs → Ev (fun k => spec_Preferred.l0 k (if (b && notIn a i j zs) = true then acc ++ [a] else acc) l (wrap64 ((i : Int) + 1))) R → Ev (fun k => spec_Preferred.l1 k acc l (i : Int) b (j : Int)) R := by
  have hil : i < l.length := (List.getElem?_eq_some_iff.1 ha).1
  have hra : rd_L1 l (i : Int) = a := getD_at ha
  have hal := hi a (List.mem_of_getElem? ha)
  intro zs
  induction zs with
  | nil =>
    intro j b h hR
    have := at_end h
    rw [show notIn a i j [] = true from rfl, Bool.and_true] at hR
    refine Ev.step (fun k => by rw [spec_Preferred.l1]) (ev_neg (by omega) (ev_ite (fun e => ev_pos (by omega) (ev_pos (by omega) (ev_pos (by omega) ?_))) (fun e => ?_)))
    · rw [if_pos e] at hR
      rw [hra]
      exact hR
    · rw [if_neg e] at hR
      exact hR
  | cons z zs ih =>
    intro j b h hR
    obtain ⟨hlt, hz, h2, _⟩ := at_drop h
    have hr : rd_L1 l (j : Int) = z := getD_at hz
    have hzl := hi z (List.mem_of_getElem? hz)
    rw [show notIn a i j (z :: zs) = ((decide (j = i) || !partB a z) && notIn a i (j + 1) zs) from rfl] at hR
    refine Ev.step (fun k => by rw [spec_Preferred.l1]) (ev_pos (by omega) ?_)
    rw [hra, hr, wrap_id (x := (j : Int) + 1) (by omega) (by omega)]
    refine ev_ite (fun e => ev_ite (fun e2 => ih (j + 1) true h2 ?_) (fun e2 => ev_pos (by omega) (ev_pos (by omega) (ev_pos (by omega) (Ev.bind (part_ev a z (by omega) (by omega)) (ih (j + 1) _ h2 ?_)))))) (fun e => ih (j + 1) false h2 ?_)
    · rw [e, decide_eq_true (show j = i by omega)] at hR
      simpa using hR
    · rw [e, decide_eq_false (show ¬ j = i by omega)] at hR
      simpa using hR
    · rw [show b = false by simpa using e] at hR
      simpa using hR
theorem prefS_l0 (l : List (List Int)) (hl : l.length ≤ 1024) (hi : ∀ y ∈ l, y.length ≤ 10 ∧ y.Pairwise (· < ·)) (hd : l.Nodup) : ∀ (zs : List (List Int)) (i : Nat) (acc : List (List Int)), l.drop i = zs → acc.length ≤ i → Ev (fun k => spec_Preferred.l0 k acc l (i : Int)) (acc ++ zs.filter (keepP l)) := by
  intro zs
  induction zs with
  | nil =>
    intro i acc h hacc
    have := at_end h
    exact Ev.step (fun k => by rw [spec_Preferred.l0]) (ev_neg (by omega) (ev_eq (Ev.now _) (by simp)))
  | cons z zs ih =>
    intro i acc h hacc
    obtain ⟨hlt, hz, h2, _⟩ := at_drop h
    refine Ev.step (fun k => by rw [spec_Preferred.l0]) (ev_pos (by omega) ?_)
    refine prefS_l1 l acc hl (fun y hy => (hi y hy).1) i z hz (by omega) _ l 0 true rfl ?_
    rw [Bool.true_and, notIn_keep l hd (fun y hy => (hi y hy).2) i z hz, wrap_id (by omega) (by omega), List.filter_cons]
    split
    · refine ev_eq (ih (i + 1) _ h2 (by rw [List.length_append, List.length_singleton]; omega)) (by simp)
    · exact ih (i + 1) acc h2 (by omega)
def prefV (n : Int) (xs : List (List Int)) : List (List Int) := (allV n xs).filter (keepP (allV n xs))
theorem pref_spec (n : Int) (xs : List (List Int)) (hn : xs.length ≤ 1048576) : Ev (fun k => spec_Preferred.f k n xs) (prefV n xs) := by
  unfold spec_Preferred.f prefV
  obtain ⟨h1, h2, h3⟩ := allV_facts n xs
  exact Ev.bind (all_spec n xs hn) (prefS_l0 _ h1 h3 h2 _ 0 [] rfl (Nat.le_refl _))
theorem prefV_facts (n : Int) (xs : List (List Int)) : (prefV n xs).length ≤ 1024 ∧ ∀ y ∈ prefV n xs, y.length ≤ 10 := by
  obtain ⟨h1, h2, h3⟩ := allV_facts n xs
  unfold prefV
  exact ⟨Nat.le_trans (List.length_filter_le _ _) h1, fun y hy => (h3 y (List.mem_filter.1 hy).1).1⟩
theorem within_l0 (xs ys : List Int) (hn : xs.length ≤ 1048576) (hm : ys.length ≤ 1048576) : ∀ (zs : List Int) (i : Nat), xs.drop i = zs → Ev (fun k => impl_isWithin.l0 k ys xs xs.length (i : Int)) (partB zs ys) := by
  intro zs
  induction zs with
  | nil =>
    intro i h
    have := at_end h
    refine Ev.step (fun k => by rw [impl_isWithin.l0]) ?_
    exact ev_neg (by omega) (Ev.now _)
  | cons z zs ih =>
    intro i h
    obtain ⟨hlt, hz, h2, _⟩ := at_drop h
    refine Ev.step (fun k => by rw [impl_isWithin.l0]) (ev_pos (by omega) (ev_pos (by omega) (ev_pos (by omega) ?_)))
    rw [rd_get hz, wrap_id (by omega) (by omega)]
    unfold partB
    refine Ev.bind (containsInt_ev ys z (by omega)) (ev_ite (fun e => ev_eq (ih (i + 1) h2) ?_) (fun e => ev_eq (Ev.now _) ?_))
    · rw [List.all_cons, e, Bool.true_and]
      rfl
    · rw [List.all_cons, show decide (z ∈ ys) = false by simpa using e, Bool.false_and]
theorem within_ev (xs ys : List Int) (hn : xs.length ≤ 1048576) (hm : ys.length ≤ 1048576) : Ev (fun k => impl_isWithin.f k xs ys) (partB xs ys) := by
  unfold impl_isWithin.f
  exact within_l0 xs ys hn hm xs 0 rfl
theorem prefAny_l0 (l : List (List Int)) (a : List Int) (hl : l.length ≤ 1024) (hi : ∀ y ∈ l, y.length ≤ 10) (ha : a.length ≤ 10) : ∀ (zs : List (List Int)) (i : Nat), l.drop i = zs → ∃ r : Int, Ev (fun k => prefAny.l0 k l a (i : Int)) r ∧ (0 ≤ r ↔ (zs.any fun b => decide (b.length > a.length) && partB a b) = true) := by
  intro zs
  induction zs with
  | nil =>
    intro i h
    have := at_end h
    refine ⟨-1, Ev.step (fun k => by rw [prefAny.l0]) (ev_neg (by omega) (Ev.now _)), by simp⟩
  | cons z zs ih =>
    intro i h
    obtain ⟨hlt, hz, h2, _⟩ := at_drop h
    have hr : rd_L1 l (i : Int) = z := getD_at hz
    have hzl := hi z (List.mem_of_getElem? hz)
    obtain ⟨r, hr2, hr3⟩ := ih (i + 1) h2
    by_cases hc : z.length > a.length
    · by_cases hp : partB a z = true
      · refine ⟨(i : Int), Ev.step (fun k => by rw [prefAny.l0]) ?_, ?_⟩
        · rw [hr]
          refine ev_pos (by omega) (ev_pos (by omega) (ev_pos (by omega) (Ev.bind (within_ev a z (by omega) (by omega)) ?_)))
          rw [hp]
          exact ev_pos rfl (Ev.now _)
        · rw [List.any_cons, hp, decide_eq_true hc]
          simp
      · refine ⟨r, Ev.step (fun k => by rw [prefAny.l0]) ?_, ?_⟩
        · rw [hr, wrap_id (x := (i : Int) + 1) (by omega) (by omega)]
          refine ev_pos (by omega) (ev_pos (by omega) (ev_pos (by omega) (Ev.bind (within_ev a z (by omega) (by omega)) (ev_neg hp hr2))))
        · rw [List.any_cons, show partB a z = false by simpa using hp, Bool.and_false, Bool.false_or]
          exact hr3
    · refine ⟨r, Ev.step (fun k => by rw [prefAny.l0]) ?_, ?_⟩
      · rw [hr, wrap_id (x := (i : Int) + 1) (by omega) (by omega)]
        exact ev_pos (by omega) (ev_pos (by omega) (ev_neg (by omega) hr2))
      · rw [List.any_cons, decide_eq_false hc, Bool.false_and, Bool.false_or]
        exact hr3
theorem prefI_l0 (l : List (List Int)) (hl : l.length ≤ 1024) (hi : ∀ y ∈ l, y.length ≤ 10) : ∀ (zs : List (List Int)) (i : Nat) (acc : List (List Int)), l.drop i = zs → acc.length ≤ i → Ev (fun k => impl_Preferred.l0 k acc l (i : Int)) (acc ++ zs.filter (keepP l)) := by
  intro zs
  induction zs with
  | nil =>
    intro i acc h hacc
    have := at_end h
    exact Ev.step (fun k => by rw [impl_Preferred.l0]) (ev_neg (by omega) (ev_eq (Ev.now _) (by simp)))
  | cons z zs ih =>
    intro i acc h hacc
    obtain ⟨hlt, hz, h2, _⟩ := at_drop h
    have hr : rd_L1 l (i : Int) = z := getD_at hz
    obtain ⟨r, hr2, hr3⟩ := prefAny_l0 l z hl hi (hi z (List.mem_of_getElem? hz)) l 0 rfl
    refine Ev.step (fun k => by rw [impl_Preferred.l0]) (ev_pos (by omega) (ev_pos (by omega) ?_))
    rw [hr, wrap_id (x := (i : Int) + 1) (by omega) (by omega)]
    refine Ev.bind hr2 (ev_ite (fun e => ?_) (fun e => ?_))
    · have hk : keepP l z = false := by unfold keepP; rw [hr3.1 e]; rfl
      rw [List.filter_cons_of_neg (by rw [hk]; simp)]
      exact ih (i + 1) acc h2 (by omega)
    · have hk : keepP l z = true := by
        unfold keepP
        rw [show (l.any fun b => decide (b.length > z.length) && partB z b) = false by rw [← Bool.not_eq_true]; exact fun h => e (hr3.2 h)]
        rfl
      rw [List.filter_cons_of_pos hk]
      exact ev_pos (by omega) (ev_eq (ih (i + 1) _ h2 (by rw [List.length_append, List.length_singleton]; omega)) (by simp))
theorem pref_impl (n : Int) (xs : List (List Int)) (hn : xs.length ≤ 1048576) : Ev (fun k => impl_Preferred.f k n xs) (prefV n xs) := by
  unfold impl_Preferred.f prefV
  obtain ⟨h1, h2, h3⟩ := allV_facts n xs
  exact Ev.bind (all_impl n xs hn) (prefI_l0 _ h1 (fun y hy => (h3 y hy).1) _ 0 [] rfl (Nat.le_refl _))

/-- What all rows hold. -/
def inAllV : List (List Int) → List Int
  | [] => []
  | s :: rest => s.filter fun n => rest.all fun t => decide (n ∈ t)
theorem inAllV_len (W : List (List Int)) (h : ∀ y ∈ W, y.length ≤ 10) : (inAllV W).length ≤ 10 := by
  cases W with
  | nil => simp [inAllV]
  | cons s rest =>
    have := h s (by simp)
    have h2 := List.length_filter_le (fun n => rest.all fun t => decide (n ∈ t)) s
    show (s.filter _).length ≤ 10
    omega
theorem inS_l1 (s : List Int) (rest : List (List Int)) (hl : rest.length ≤ 1024) (hi : ∀ y ∈ s :: rest, y.length ≤ 10) (i : Nat) (n : Int) (hn : s[i]? = some n) (acc R : List Int) (hacc : acc.length ≤ 10) : ∀ (zs : List (List Int)) (j : Nat) (b : Bool), (s :: rest).drop j = zs → Ev (fun k => spec_InAll.l0 k (s :: rest) (if (b && zs.all fun t => decide (n ∈ t)) = true then acc ++ [n] else acc) (wrap64 ((i : Int) + 1))) R → Ev (fun k => spec_InAll.l1 k (s :: rest) acc (i : Int) b (j : Int)) R := by
  have hil : i < s.length := (List.getElem?_eq_some_iff.1 hn).1
  have h0 : rd_L1 (s :: rest) 0 = s := rfl
  have hW : ((s :: rest).length : Int) = (rest.length : Int) + 1 := by simp
  intro zs
  induction zs with
  | nil =>
    intro j b h hR
    have := at_end h
    refine Ev.step (fun k => by rw [spec_InAll.l1]) (ev_neg (by omega) ?_)
    rw [h0, rd_get hn]
    rw [List.all_nil, Bool.and_true] at hR
    refine ev_ite (fun e => ?_) (fun e => ?_)
    · rw [if_pos e] at hR
      exact ev_pos (by omega) (ev_pos (by omega) (ev_pos (by omega) (ev_pos (by omega) hR)))
    · rw [if_neg e] at hR
      exact hR
  | cons z zs ih =>
    intro j b h hR
    obtain ⟨hlt, hz, h2, _⟩ := at_drop h
    have hr : rd_L1 (s :: rest) (j : Int) = z := getD_at hz
    have hzl := hi z (List.mem_of_getElem? hz)
    have hlt2 : j < rest.length + 1 := by simpa using hlt
    refine Ev.step (fun k => by rw [spec_InAll.l1]) (ev_pos (by omega) ?_)
    rw [h0, hr, rd_get hn, wrap_id (x := (j : Int) + 1) (by omega) (by omega)]
    refine ev_ite (fun e => ?_) (fun e => ?_)
    · refine ev_pos (by omega) (ev_pos (by omega) (ev_pos (by omega) (ev_pos (by omega) (Ev.bind (l4Has_ev z n (by omega)) (ih (j + 1) _ h2 ?_)))))
      rw [e, List.all_cons, Bool.true_and] at hR
      exact hR
    · refine ih (j + 1) false h2 ?_
      rw [show b = false by simpa using e, Bool.false_and] at hR
      rw [Bool.false_and]
      exact hR
theorem inS_l0 (s : List Int) (rest : List (List Int)) (hl : rest.length ≤ 1024) (hi : ∀ y ∈ s :: rest, y.length ≤ 10) : ∀ (us : List Int) (i : Nat) (acc : List Int), s.drop i = us → acc.length ≤ i → Ev (fun k => spec_InAll.l0 k (s :: rest) acc (i : Int)) (acc ++ us.filter fun n => rest.all fun t => decide (n ∈ t)) := by
  have hsl := hi s (by simp)
  have h0 : rd_L1 (s :: rest) 0 = s := rfl
  have hW : ((s :: rest).length : Int) = (rest.length : Int) + 1 := by simp
  intro us
  induction us with
  | nil =>
    intro i acc h ha
    have := at_end h
    refine Ev.step (fun k => by rw [spec_InAll.l0]) (ev_pos (by omega) (ev_pos (by omega) ?_))
    rw [h0, decide_eq_false (by omega)]
    exact Ev.step (fun k => by rw [spec_InAll.j1]) (ev_neg (by decide) (ev_eq (Ev.now _) (by simp)))
  | cons n us ih =>
    intro i acc h ha
    obtain ⟨hlt, hz, h2, _⟩ := at_drop h
    have hns : n ∈ s := List.mem_of_getElem? hz
    refine Ev.step (fun k => by rw [spec_InAll.l0]) (ev_pos (by omega) (ev_pos (by omega) ?_))
    rw [h0, decide_eq_true (by omega)]
    refine Ev.step (fun k => by rw [spec_InAll.j1]) (ev_pos rfl ?_)
    refine inS_l1 s rest hl hi i n hz acc _ (by omega) rest 1 true rfl ?_
    rw [Bool.true_and, wrap_id (x := (i : Int) + 1) (by omega) (by omega), List.filter_cons]
    split
    · refine ev_eq (ih (i + 1) _ h2 (by rw [List.length_append, List.length_singleton]; omega)) (by simp)
    · exact ih (i + 1) acc h2 (by omega)
theorem inAll_spec (W : List (List Int)) (hl : W.length ≤ 1024) (hi : ∀ y ∈ W, y.length ≤ 10) : Ev (fun k => spec_InAll.f k W) (inAllV W) := by
  unfold spec_InAll.f
  cases W with
  | nil =>
    refine ⟨2, fun k hk => ?_⟩
    obtain ⟨m, rfl⟩ : ∃ m, k = m + 1 + 1 := ⟨k - 2, by omega⟩
    simp [spec_InAll.l0, spec_InAll.j1, inAllV]
  | cons s rest => exact inS_l0 s rest (by simp at hl; omega) hi s 0 [] rfl (Nat.le_refl _)
theorem inAny_l0 (l : List (List Int)) (n : Int) (hl : l.length ≤ 1024) (hi : ∀ y ∈ l, y.length ≤ 10) : ∀ (zs : List (List Int)) (i : Nat), l.drop i = zs → ∃ r : Int, Ev (fun k => inAny.l0 k l n (i : Int)) r ∧ (0 ≤ r ↔ ¬ (zs.all fun t => decide (n ∈ t)) = true) := by
  intro zs
  induction zs with
  | nil =>
    intro i h
    have := at_end h
    refine ⟨-1, Ev.step (fun k => by rw [inAny.l0]) (ev_neg (by omega) (Ev.now _)), by simp⟩
  | cons z zs ih =>
    intro i h
    obtain ⟨hlt, hz, h2, _⟩ := at_drop h
    have hr : rd_L1 l (i : Int) = z := getD_at hz
    have hzl := hi z (List.mem_of_getElem? hz)
    obtain ⟨r, hr2, hr3⟩ := ih (i + 1) h2
    by_cases hc : n ∈ z
    · refine ⟨r, Ev.step (fun k => by rw [inAny.l0]) ?_, ?_⟩
      · rw [hr, wrap_id (x := (i : Int) + 1) (by omega) (by omega)]
        exact ev_pos (by omega) (ev_pos (by omega) (Ev.bind (containsInt_ev z n (by omega)) (ev_pos (by simpa using hc) hr2)))
      · rw [List.all_cons, decide_eq_true hc, Bool.true_and]
        exact hr3
    · refine ⟨(i : Int), Ev.step (fun k => by rw [inAny.l0]) ?_, ?_⟩
      · rw [hr]
        exact ev_pos (by omega) (ev_pos (by omega) (Ev.bind (containsInt_ev z n (by omega)) (ev_neg (by simpa using hc) (Ev.now _))))
      · rw [List.all_cons, decide_eq_false hc, Bool.false_and]
        simp
theorem inI_l0 (s : List Int) (rest : List (List Int)) (hl : rest.length ≤ 1023) (hi : ∀ y ∈ s :: rest, y.length ≤ 10) : ∀ (us : List Int) (i : Nat) (acc : List Int), s.drop i = us → acc.length ≤ i → Ev (fun k => impl_InAll.l0 k (s :: rest) s acc (i : Int)) (acc ++ us.filter fun n => rest.all fun t => decide (n ∈ t)) := by
  have hsl := hi s (by simp)
  intro us
  induction us with
  | nil =>
    intro i acc h ha
    have := at_end h
    exact Ev.step (fun k => by rw [impl_InAll.l0]) (ev_neg (by omega) (ev_eq (Ev.now _) (by simp)))
  | cons n us ih =>
    intro i acc h ha
    obtain ⟨hlt, hz, h2, _⟩ := at_drop h
    have hns : n ∈ s := List.mem_of_getElem? hz
    obtain ⟨r, hr2, hr3⟩ := inAny_l0 (s :: rest) n (by first | (simp; done) | (simp; omega)) hi (s :: rest) 0 rfl
    rw [List.all_cons, decide_eq_true hns, Bool.true_and] at hr3
    refine Ev.step (fun k => by rw [impl_InAll.l0]) (ev_pos (by omega) (ev_pos (by omega) ?_))
    rw [rd_get hz, wrap_id (x := (i : Int) + 1) (by omega) (by omega)]
    refine Ev.bind hr2 (ev_ite (fun e => ?_) (fun e => ?_))
    · rw [List.filter_cons_of_neg (p := fun n => rest.all fun t => decide (n ∈ t)) (hr3.1 e)]
      exact ih (i + 1) acc h2 (by omega)
    · rw [List.filter_cons_of_pos (p := fun n => rest.all fun t => decide (n ∈ t)) (Decidable.of_not_not (fun h => e (hr3.2 h)))]
      exact ev_pos (by omega) (ev_eq (ih (i + 1) _ h2 (by rw [List.length_append, List.length_singleton]; omega)) (by simp))
theorem inAll_impl (W : List (List Int)) (hl : W.length ≤ 1024) (hi : ∀ y ∈ W, y.length ≤ 10) : Ev (fun k => impl_InAll.f k W) (inAllV W) := by
  unfold impl_InAll.f
  cases W with
  | nil => exact ev_pos (by simp) (Ev.now _)
  | cons s rest => exact ev_neg (by first | (simp; done) | (simp; omega)) (inI_l0 s rest (by simp at hl; omega) hi s 0 [] rfl (Nat.le_refl _))

theorem FnExactIsCertain (a0_0 : Int) (g0_0 : (Lit.int .i64 a0_0).wf = true) (l0_1 : List (List (Int))) (g0_1 : l0_1.length ≤ 9223372036854775807 ∧ ∀ y ∈ l0_1, y.length ≤ 9223372036854775807 ∧ ∀ z ∈ y, (Lit.int .i64 z).wf = true) (a1 : Int) (g1 : (Lit.int .i64 a1).wf = true) : ∃ k, laws_FnExactIsCertain.f k a0_0 l0_1 a1 = some true := by
  refine Ev.rounds (g := fun k => laws_FnExactIsCertain.f k a0_0 l0_1 a1) ?_
  unfold laws_FnExactIsCertain.f
  obtain ⟨r, hr, hok⟩ := szGraph_ev a0_0 l0_1 g0_1.1 (fun y hy => (g0_1.2 y hy).1)
  refine Ev.bind hr (ev_ite (fun _ => Ev.now _) (fun h0 => ?_))
  obtain ⟨hn, hi⟩ := hok h0
  obtain ⟨hl, hz⟩ := prefV_facts a0_0 l0_1
  have hlen := inAllV_len _ hz
  have hG := toGraph_ev a0_0 l0_1 hn hi
  have hs : Ev (fun k => spec_IsCertain.f k a0_0 l0_1 a1) (decide (a1 ∈ inAllV (prefV a0_0 l0_1))) := by
    unfold spec_IsCertain.f
    exact Ev.bind (pref_spec a0_0 l0_1 hn) (Ev.bind (inAll_spec _ hl hz) (Ev.bind (l4Has_ev _ a1 (by omega)) (Ev.now _)))
  have hp : Ev (fun k => impl_IsCertain.f k a0_0 l0_1 a1) (decide (a1 ∈ inAllV (prefV a0_0 l0_1))) := by
    unfold impl_IsCertain.f
    exact Ev.bind (pref_impl a0_0 l0_1 hn) (Ev.bind (inAll_impl _ hl hz) (Ev.bind (containsInt_ev _ a1 (by omega)) (Ev.now _)))
  refine Ev.bind hG ?_
  dsimp only
  refine Ev.bind hs (Ev.bind hG ?_)
  dsimp only
  refine Ev.bind hp (ev_neg (by simp) (Ev.bind hG ?_))
  dsimp only
  exact Ev.bind (eqGraph_same _ _ hn hi) (ev_pos rfl (Ev.now _))

end Go.Proofs.Ytkmhkkhlbnhaaaa.Pure
