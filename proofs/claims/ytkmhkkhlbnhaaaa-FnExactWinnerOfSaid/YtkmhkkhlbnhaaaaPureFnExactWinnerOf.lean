/- The plain statement of the law FnExactWinnerOf, for all numbers and lists. -/
import Derived.Test.YtkmhkkhlbnhaaaaPFnExactWinnerOfx0
import Derived.Test.YtkmhkkhlbnhaaaaPFnExactWinnerOfx1
import Derived.Test.YtkmhkkhlbnhaaaaPFnExactWinnerOfx2
import Derived.Test.YtkmhkkhlbnhaaaaPFnExactWinnerOfx3
import Derived.Test.YtkmhkkhlbnhaaaaPFnExactWinnerOfx4
import Derived.Test.YtkmhkkhlbnhaaaaPFnExactWinnerOfx5
import Derived.Test.YtkmhkkhlbnhaaaaPFnExactWinnerOfx6
import Derived.Test.YtkmhkkhlbnhaaaaPFnExactWinnerOfx7
import Derived.Test.YtkmhkkhlbnhaaaaPFnExactWinnerOfx8
import Derived.Test.YtkmhkkhlbnhaaaaPFnExactWinnerOfx9
import Derived.Test.YtkmhkkhlbnhaaaaPFnExactWinnerOfx10
import Derived.Test.YtkmhkkhlbnhaaaaPFnExactWinnerOfx11
import Derived.Test.YtkmhkkhlbnhaaaaPFnExactWinnerOfx12
import Derived.Test.YtkmhkkhlbnhaaaaBase
set_option linter.unusedVariables false
set_option linter.unusedSimpArgs false
namespace Go.Proofs.Ytkmhkkhlbnhaaaa.Pure
open Go.RowKit Go.Proofs.Ytkmhkkhlbnhaaaa.PFnExactWinnerOf Go.Proofs.YtkmhkkhlbnhaaaaW.PrintWords Go.Proofs.YtkmhkkhlbnhaaaaW.PrintLast Go.Proofs.YtkmhkkhlbnhaaaaW.PrintMore Go.Proofs.Ytkmhkkhlbnhaaaa.Base
theorem toIntS_l0 (xs : List Int) (hn : xs.length ≤ 35184372088832) : ∀ (zs : List Int) (i : Nat) (ys : List Int), xs.drop i = zs → ys.length = xs.length → ys.take i = xs.take i → Ev (fun k => laws_toIntS.l0 k xs ys (i : Int)) xs := by
 intro zs
 induction zs with
 | nil =>
  intro i ys h hl ht
  have := at_end h
  refine Ev.step (fun k => by rw [laws_toIntS.l0]) (ev_neg (by omega) ?_)
  rw [List.take_of_length_le (by omega), List.take_of_length_le (by omega)] at ht
  rw [ht]
  exact Ev.now _
 | cons z zs ih =>
  intro i ys h hl ht
  obtain ⟨hi, hz, h', _⟩ := at_drop h
  refine Ev.step (fun k => by rw [laws_toIntS.l0]) (ev_pos (by omega) (ev_pos (by omega) (ev_pos (by omega) ?_)))
  rw [wrap_id (by omega) (by omega), Int.toNat_natCast, rd_get hz]
  exact ih (i + 1) _ h' (by simp [hl]) (by rw [take_set_at (by omega), take_at hz, ht])
theorem toIntS_ev (xs : List Int) (hn : xs.length ≤ 35184372088832) : Ev (fun k => laws_toIntS.f k xs) xs := by
 unfold laws_toIntS.f
 exact ev_pos (by omega) (ev_pos (by omega) (toIntS_l0 xs hn xs 0 _ rfl (by simp) (by simp)))
theorem eqIntS_l0 (xs ys : List Int) (hl : xs.length = ys.length) (hn : xs.length ≤ 9223372036854775807) : ∀ (zs us : List Int) (i : Nat), xs.drop i = zs → ys.drop i = us → Ev (fun k => laws_eqIntS.l0 k xs ys (i : Int)) (decide (zs = us)) := by
 intro zs
 induction zs with
 | nil =>
  intro us i h hu
  have := at_end h
  refine Ev.step (fun k => by rw [laws_eqIntS.l0]) (ev_neg (by omega) ?_)
  rw [List.drop_of_length_le (by omega)] at hu
  subst hu
  exact ev_eq (Ev.now _) (by simp)
 | cons z zs ih =>
  intro us i h hu
  obtain ⟨hi, hz, h', _⟩ := at_drop h
  cases us with
  | nil => have := at_end hu; omega
  | cons u us =>
   obtain ⟨_, hzu, hu', _⟩ := at_drop hu
   refine Ev.step (fun k => by rw [laws_eqIntS.l0]) (ev_pos (by omega) (ev_pos (by omega) (ev_pos (by omega) ?_)))
   rw [wrap_id (by omega) (by omega), rd_get hz, rd_get hzu]
   refine ev_ite (fun e => ev_eq (ih us (i + 1) h' hu') (by simp [e])) (fun e => ev_eq (Ev.now _) (by simp [e]))
theorem eqIntS_ev (xs ys : List Int) (hn : xs.length ≤ 9223372036854775807) : Ev (fun k => laws_eqIntS.f k xs ys) (decide (xs = ys)) := by
 unfold laws_eqIntS.f
 refine ev_ite (fun e => eqIntS_l0 xs ys (by omega) hn xs ys 0 rfl rfl) (fun e => ev_eq (Ev.now _) ?_)
 have : xs ≠ ys := by rintro rfl; exact e rfl
 simp [this]
theorem eqIntS_same (xs : List Int) (hn : xs.length ≤ 9223372036854775807) : Ev (fun k => laws_eqIntS.f k xs xs) true := ev_eq (eqIntS_ev xs xs hn) (by simp)
theorem l4Has_l0 (xs : List Int) (x : Int) (hn : xs.length ≤ 9223372036854775807) : ∀ (zs : List Int) (i : Nat), xs.drop i = zs → Ev (fun k => spec_l4Has.l0 k xs x (i : Int)) (decide (x ∈ zs)) := by
 intro zs
 induction zs with
 | nil =>
  intro i h
  have := at_end h
  exact Ev.step (fun k => by rw [spec_l4Has.l0]) (ev_neg (by omega) (ev_eq (Ev.now _) (by simp)))
 | cons z zs ih =>
  intro i h
  obtain ⟨hi, hz, h', _⟩ := at_drop h
  refine Ev.step (fun k => by rw [spec_l4Has.l0]) (ev_pos (by omega) (ev_pos (by omega) ?_))
  rw [wrap_id (by omega) (by omega), rd_get hz]
  exact ev_ite (fun e => ev_eq (Ev.now _) (by simp [e])) (fun e => ev_eq (ih (i + 1) h') (by simp [Ne.symm e]))
theorem l4Has_ev (xs : List Int) (x : Int) (hn : xs.length ≤ 9223372036854775807) : Ev (fun k => spec_l4Has.f k xs x) (decide (x ∈ xs)) := by
 unfold spec_l4Has.f
 exact l4Has_l0 xs x hn xs 0 rfl
theorem indexInt_l0 (xs : List Int) (x : Int) (hn : xs.length ≤ 9223372036854775807) : ∀ (zs : List Int) (i : Nat), xs.drop i = zs → ∃ r : Int, Ev (fun k => slices_Index_int_int.l0 k xs x xs.length (i : Int)) r ∧ (0 ≤ r ↔ x ∈ zs) := by
 intro zs
 induction zs with
 | nil =>
  intro i h
  have := at_end h
  exact ⟨-1, Ev.step (fun k => by rw [slices_Index_int_int.l0]) (ev_neg (by omega) (Ev.now _)), by simp⟩
 | cons z zs ih =>
  intro i h
  obtain ⟨hi, hz, h', _⟩ := at_drop h
  by_cases e : x = z
  ·refine ⟨i, Ev.step (fun k => by rw [slices_Index_int_int.l0]) (ev_pos (by omega) (ev_pos (by omega) (ev_pos (by omega) ?_))), by simp [e]⟩
   rw [rd_get hz]
   exact ev_pos e (Ev.now _)
  ·obtain ⟨r, hr, hm⟩ := ih (i + 1) h'
   refine ⟨r, Ev.step (fun k => by rw [slices_Index_int_int.l0]) (ev_pos (by omega) (ev_pos (by omega) (ev_pos (by omega) ?_))), by simp [e, hm]⟩
   rw [rd_get hz, wrap_id (by omega) (by omega)]
   exact ev_neg e hr
theorem containsInt_ev (xs : List Int) (x : Int) (hn : xs.length ≤ 9223372036854775807) : Ev (fun k => slices_Contains_int_int.f k xs x) (decide (x ∈ xs)) := by
 unfold slices_Contains_int_int.f slices_Index_int_int.f
 obtain ⟨r, hr, hm⟩ := indexInt_l0 xs x hn xs 0 rfl
 exact Ev.bind hr (ev_eq (Ev.now _) (decide_eq_decide.2 hm))
theorem l1In_eq (x a b : Int) : spec_l1In.f x a b = some (decide (a ≤ x ∧ x ≤ b)) := by
 unfold spec_l1In.f
 by_cases h : a ≤ x <;> simp [h]
theorem inRange_eq (x a b : Int) : impl_InRange.f x a b = some (decide (a ≤ x ∧ x ≤ b)) := by
 unfold impl_InRange.f
 by_cases h : a ≤ x <;> simp [h]

theorem toIntSS_l0 (xs : List (List Int)) (hn : xs.length ≤ 11728124029610) (hi : ∀ y ∈ xs, y.length ≤ 35184372088832) : ∀ (zs : List (List Int)) (i : Nat) (ys : List (List Int)), xs.drop i = zs → ys.length = xs.length → ys.take i = xs.take i → Ev (fun k => laws_toIntSS.l0 k xs ys (i : Int)) xs := by
 intro zs
 induction zs with
 | nil =>
  intro i ys h hl ht
  have := at_end h
  refine Ev.step (fun k => by rw [laws_toIntSS.l0]) ?_
  refine ev_neg (by omega) ?_
  rw [List.take_of_length_le (by omega), List.take_of_length_le (by omega)] at ht
  rw [ht]
  exact Ev.now _
 | cons z zs ih =>
  intro i ys h hl ht
  obtain ⟨hlt, hz, h2, _⟩ := at_drop h
  have hr : rd_L1 xs (i : Int) = z := getD_at hz
  have hm : z ∈ xs := List.mem_of_getElem? hz
  refine Ev.step (fun k => by rw [laws_toIntSS.l0]) ?_
  refine ev_pos (by omega) (ev_pos (by omega) ?_)
  rw [hr]
  refine Ev.bind (toIntS_ev z (hi z hm)) (ev_pos (by omega) ?_)
  rw [wrap_id (by omega) (by omega), Int.toNat_natCast]
  exact ih (i + 1) _ h2 (by simp [hl]) (by rw [take_set_at (by omega), take_at hz, ht])
theorem toIntSS_ev (xs : List (List Int)) (hn : xs.length ≤ 11728124029610) (hi : ∀ y ∈ xs, y.length ≤ 35184372088832) : Ev (fun k => laws_toIntSS.f k xs) xs := by
 unfold laws_toIntSS.f
 exact ev_pos (by omega) (ev_pos (by omega) (toIntSS_l0 xs hn hi xs 0 _ rfl (by simp) (by simp)))
theorem eqIntSS_l0 (xs ys : List (List Int)) (hl : xs.length = ys.length) (hn : xs.length ≤ 9223372036854775807) (hi : ∀ y ∈ xs, y.length ≤ 9223372036854775807) : ∀ (zs us : List (List Int)) (i : Nat), xs.drop i = zs → ys.drop i = us → Ev (fun k => laws_eqIntSS.l0 k xs ys (i : Int)) (decide (zs = us)) := by
 intro zs
 induction zs with
 | nil =>
  intro us i h hu
  have := at_end h
  refine Ev.step (fun k => by rw [laws_eqIntSS.l0]) ?_
  rw [List.drop_of_length_le (by omega)] at hu
  subst hu
  exact ev_neg (by omega) (ev_eq (Ev.now _) (by simp))
 | cons z zs ih =>
  intro us i h hu
  obtain ⟨hlt, hz, h2, _⟩ := at_drop h
  cases us with
  | nil => have := at_end hu; omega
  | cons u us =>
   obtain ⟨_, hzu, hu2, _⟩ := at_drop hu
   have hr : rd_L1 xs (i : Int) = z := getD_at hz
   have hr2 : rd_L1 ys (i : Int) = u := getD_at hzu
   refine Ev.step (fun k => by rw [laws_eqIntSS.l0]) ?_
   refine ev_pos (by omega) (ev_pos (by omega) (ev_pos (by omega) ?_))
   rw [wrap_id (by omega) (by omega), hr, hr2]
   refine Ev.bind (eqIntS_ev z u (hi z (List.mem_of_getElem? hz))) (ev_ite (fun e => ev_eq (ih us (i + 1) h2 hu2) ?_) (fun e => ev_eq (Ev.now _) ?_))
   ·simp only [decide_eq_true_eq] at e
    simp [e]
   ·simp only [decide_eq_true_eq] at e
    simp [e]
theorem eqIntSS_ev (xs ys : List (List Int)) (hn : xs.length ≤ 9223372036854775807) (hi : ∀ y ∈ xs, y.length ≤ 9223372036854775807) : Ev (fun k => laws_eqIntSS.f k xs ys) (decide (xs = ys)) := by
 unfold laws_eqIntSS.f
 refine ev_ite (fun e => eqIntSS_l0 xs ys (by omega) hn hi xs ys 0 rfl rfl) (fun e => ev_eq (Ev.now _) ?_)
 have : xs ≠ ys := by rintro rfl; exact e rfl
 simp [this]
theorem eqIntSS_same (xs : List (List Int)) (hn : xs.length ≤ 9223372036854775807) (hi : ∀ y ∈ xs, y.length ≤ 9223372036854775807) : Ev (fun k => laws_eqIntSS.f k xs xs) true := ev_eq (eqIntSS_ev xs xs hn hi) (by simp)
theorem szIntS_eq (xs : List Int) (n : Int) (h0 : -9223372036854775808 + xs.length ≤ n) (h1 : n ≤ 9223372036854775807) : laws_szIntS.f xs n = some (if n - xs.length < 0 then -1 else n - xs.length) := by
 unfold laws_szIntS.f
 rw [wrap_id (by omega) (by omega)]
 split <;> rfl
theorem szIntSS_l0 (xs : List (List Int)) (hn : xs.length ≤ 9223372036854775807) (hi : ∀ y ∈ xs, y.length ≤ 9223372036854775807) : ∀ (zs : List (List Int)) (i : Nat) (n : Int), xs.drop i = zs → 0 ≤ n → n ≤ 1048576 → ∃ r, Ev (fun k => laws_szIntSS.l0 k xs n (i : Int)) r ∧ (¬ r < 0 → ∀ y ∈ zs, y.length ≤ 1048576) := by
 intro zs
 induction zs with
 | nil =>
  intro i n h _ _
  have := at_end h
  refine ⟨n, Ev.step (fun k => by rw [laws_szIntSS.l0]) ?_, by simp⟩
  exact ev_neg (by omega) (Ev.now _)
 | cons z zs ih =>
  intro i n h h0 h1
  obtain ⟨hlt, hz, h2, _⟩ := at_drop h
  have hr : rd_L1 xs (i : Int) = z := getD_at hz
  have hm := hi z (List.mem_of_getElem? hz)
  by_cases hs : n - (z.length : Int) < 0
  ·refine ⟨-1, Ev.step (fun k => by rw [laws_szIntSS.l0]) ?_, by omega⟩
   refine ev_pos (by omega) (ev_pos (by omega) ?_)
   rw [hr]
   refine ev_bind0 (szIntS_eq z n (by omega) (by omega)) ?_
   rw [if_pos hs]
   exact ev_pos (by omega) (Ev.now _)
  ·obtain ⟨r, hev, hall⟩ := ih (i + 1) (n - z.length) h2 (by omega) (by omega)
   refine ⟨r, Ev.step (fun k => by rw [laws_szIntSS.l0]) ?_, fun hr0 y hy => ?_⟩
   ·refine ev_pos (by omega) (ev_pos (by omega) ?_)
    rw [hr]
    refine ev_bind0 (szIntS_eq z n (by omega) (by omega)) ?_
    rw [if_neg hs, wrap_id (by omega) (by omega)]
    exact ev_neg (by omega) hev
   ·rcases List.mem_cons.1 hy with rfl | hy
    ·omega
    ·exact hall hr0 y hy
theorem szIntSS_ev (xs : List (List Int)) (hn : xs.length ≤ 9223372036854775807) (hi : ∀ y ∈ xs, y.length ≤ 9223372036854775807) : ∃ r, Ev (fun k => laws_szIntSS.f k xs 1048576) r ∧ (¬ r < 0 → xs.length ≤ 1048576 ∧ ∀ y ∈ xs, y.length ≤ 1048576) := by
 unfold laws_szIntSS.f
 by_cases hs : (1048576 : Int) - xs.length < 0
 ·refine ⟨-1, ?_, by omega⟩
  rw [wrap_id (by omega) (by omega)]
  exact ev_pos hs (Ev.now _)
 ·obtain ⟨r, hev, hall⟩ := szIntSS_l0 xs hn hi xs 0 (1048576 - xs.length) rfl (by omega) (by omega)
  refine ⟨r, ?_, fun h => ⟨by omega, hall h⟩⟩
  rw [wrap_id (by omega) (by omega)]
  exact ev_neg hs hev

theorem szGraph_ev (n : Int) (xs : List (List Int)) (hn : xs.length ≤ 9223372036854775807) (hi : ∀ y ∈ xs, y.length ≤ 9223372036854775807) : ∃ r, Ev (fun k => laws_szGraph.f k n xs 1048576) r ∧ (¬ r < 0 → xs.length ≤ 1048576 ∧ ∀ y ∈ xs, y.length ≤ 1048576) := by
 obtain ⟨r, hr, hok⟩ := szIntSS_ev xs hn hi
 unfold laws_szGraph.f
 by_cases h : r < 0
 ·exact ⟨-1, Ev.bind hr (ev_pos h (Ev.now _)), by omega⟩
 ·exact ⟨r, Ev.bind hr (ev_neg h (Ev.now _)), hok⟩
theorem toGraph_ev (n : Int) (xs : List (List Int)) (hn : xs.length ≤ 1048576) (hi : ∀ y ∈ xs, y.length ≤ 1048576) : Ev (fun k => laws_toGraph.f k n xs) (n, xs) := by
 unfold laws_toGraph.f
 exact Ev.bind (toIntSS_ev xs (by omega) (fun y hy => Nat.le_trans (hi y hy) (by decide))) (Ev.now _)
theorem eqGraph_same (n : Int) (xs : List (List Int)) (hn : xs.length ≤ 1048576) (hi : ∀ y ∈ xs, y.length ≤ 1048576) : Ev (fun k => laws_eqGraph.f k n xs n xs) true := by
 unfold laws_eqGraph.f
 exact ev_pos rfl (Ev.bind (eqIntSS_same xs (by omega) (fun y hy => Nat.le_trans (hi y hy) (by decide))) (ev_pos rfl (Ev.now _)))
def rowOk (h : Int) (r : List Int) : Bool := decide (r.length = 2 ∧ 0 ≤ rd r 0 ∧ rd r 0 ≤ h ∧ 0 ≤ rd r 1 ∧ rd r 1 ≤ h)
def lexLt (p r : List Int) : Bool := decide (rd p 0 < rd r 0 ∨ rd p 0 = rd r 0 ∧ rd p 1 < rd r 1)
def rowsOk (h : Int) : Option (List Int) → List (List Int) → Bool
 | _, [] => true
 | p, r :: rs => rowOk h r && ((match p with | none => true | some q => lexLt q r) && rowsOk h (some r) rs)
def isGraph (n : Int) (rs : List (List Int)) : Bool := decide (0 ≤ n ∧ n ≤ 10) && rowsOk (wrap64 (n - 1)) none rs
theorem isGraph_spec_l0 (n : Int) (xs : List (List Int)) (hn : xs.length ≤ 1048576) : ∀ (zs : List (List Int)) (i : Nat) (p : Option (List Int)), xs.drop i = zs → (i = 0 ∧ p = none ∨ ∃ q, p = some q ∧ 0 < i ∧ xs[i - 1]? = some q ∧ q.length = 2) → Ev (fun k => spec_IsGraph.l0 k (i : Int) n xs) (rowsOk (wrap64 (n - 1)) p zs && decide (0 ≤ n ∧ n ≤ 10)) := by
 intro zs
 induction zs with
 | nil =>
  intro i p h _
  have := at_end h
  refine Ev.step (fun k => by rw [spec_IsGraph.l0]) ?_
  refine ev_neg (by omega) (ev_bind0 (l1In_eq _ _ _) (ev_eq (Ev.now _) ?_))
  simp [rowsOk]
 | cons z zs ih =>
  intro i p h hp
  obtain ⟨hlt, hz, h2, _⟩ := at_drop h
  have hr : rd_L1 xs (i : Int) = z := getD_at hz
  refine Ev.step (fun k => by rw [spec_IsGraph.l0]) ?_
  refine ev_pos (by omega) (ev_pos (by omega) ?_)
  rw [hr]
  have bad : rowOk (wrap64 (n - 1)) z = false → Ev (fun k => spec_IsGraph.j1 k (i : Int) z true n xs) (rowsOk (wrap64 (n - 1)) p (z :: zs) && decide (0 ≤ n ∧ n ≤ 10)) := by
   intro hb
   refine Ev.step (fun k => by rw [spec_IsGraph.j1]) (ev_pos rfl (ev_eq (Ev.now _) ?_))
   simp [rowsOk, hb]
  refine ev_ite (fun e1 => ev_pos (by omega) (ev_bind0 (l1In_eq _ _ _) (ev_ite (fun e2 => ev_pos (by omega) (ev_bind0 (l1In_eq _ _ _) ?_)) (fun e2 => bad ?_)))) (fun e1 => bad ?_)
  ·have e2 := of_decide_eq_true e2
   by_cases e3 : 0 ≤ rd z 1 ∧ rd z 1 ≤ wrap64 (n - 1)
   ·have hok : rowOk (wrap64 (n - 1)) z = true := decide_eq_true ⟨by omega, e2.1, e2.2, e3.1, e3.2⟩
    have hl2 : z.length = 2 := by omega
    have ih2 := ih (i + 1) (some z) h2 (.inr ⟨z, rfl, by omega, hz, hl2⟩)
    rw [decide_eq_true e3]
    refine Ev.step (fun k => by rw [spec_IsGraph.j1]) (ev_neg (by decide) ?_)
    rw [wrap_id (x := (i : Int) + 1) (by omega) (by omega)]
    rcases hp with ⟨hi0, rfl⟩ | ⟨q, rfl, hi0, hq, hq2⟩
    ·refine ev_neg (by omega) (ev_eq ih2 ?_)
     simp [rowsOk, hok]
    ·have hr2 : rd_L1 xs ((i : Int) - 1) = q := by
      rw [show (i : Int) - 1 = ((i - 1 : Nat) : Int) by omega]
      exact getD_at hq
     rw [wrap_id (x := (i : Int) - 1) (by omega) (by omega), hr2]
     refine ev_pos (by omega) (ev_pos (by omega) (ev_pos (by omega) (ev_pos (by omega) (ev_pos (by omega) ?_))))
     refine ev_ite (fun e4 => ev_eq (Ev.now _) ?_) (fun e4 => ev_ite (fun e5 => ev_pos (by omega) (ev_pos (by omega) (ev_ite (fun e6 => ev_eq (Ev.now _) ?_) (fun e6 => ev_eq ih2 ?_)))) (fun e5 => ev_eq ih2 ?_))
     ·have : lexLt q z = false := decide_eq_false (by omega)
      simp [rowsOk, this]
     ·have : lexLt q z = false := decide_eq_false (by omega)
      simp [rowsOk, this]
     ·have : lexLt q z = true := decide_eq_true (by omega)
      simp [rowsOk, this, hok]
     ·have : lexLt q z = true := decide_eq_true (by omega)
      simp [rowsOk, this, hok]
   ·rw [decide_eq_false e3]
    exact bad (decide_eq_false (by rintro ⟨_, _, _, h4, h5⟩; exact e3 ⟨h4, h5⟩))
  ·have e2 : ¬ _ := fun h => e2 (decide_eq_true h)
   exact decide_eq_false (by rintro ⟨_, h2, h3, _⟩; exact e2 ⟨h2, h3⟩)
  ·exact decide_eq_false (by rintro ⟨h1, _⟩; omega)
theorem isGraph_spec (n : Int) (xs : List (List Int)) (hn : xs.length ≤ 1048576) : Ev (fun k => spec_IsGraph.f k n xs) (isGraph n xs) := by
 unfold spec_IsGraph.f
 refine ev_eq (isGraph_spec_l0 n xs hn xs 0 none rfl (.inl ⟨rfl, rfl⟩)) ?_
 unfold isGraph
 exact Bool.and_comm _ _
theorem isGraph_n {n : Int} {xs : List (List Int)} (h : isGraph n xs = true) : 0 ≤ n ∧ n ≤ 10 := by
 unfold isGraph at h
 exact of_decide_eq_true (Bool.and_eq_true_iff.1 h).1
theorem rowsOk_mem {h : Int} : ∀ (rs : List (List Int)) (p : Option (List Int)), rowsOk h p rs = true → ∀ r ∈ rs, rowOk h r = true := by
 intro rs
 induction rs with
 | nil => intro p _ r hr; exact absurd hr (by simp)
 | cons a rs ih =>
  intro p hp r hr
  unfold rowsOk at hp
  simp only [Bool.and_eq_true] at hp
  rcases List.mem_cons.1 hr with rfl | hr
  ·exact hp.1
  ·exact ih (some a) hp.2.2 r hr
theorem isGraph_row {n : Int} {xs : List (List Int)} (h : isGraph n xs = true) {r : List Int} (hr : r ∈ xs) : r.length = 2 ∧ 0 ≤ rd r 0 ∧ rd r 0 ≤ n - 1 ∧ 0 ≤ rd r 1 ∧ rd r 1 ≤ n - 1 := by
 have hn := isGraph_n h
 unfold isGraph at h
 have := of_decide_eq_true (rowsOk_mem xs none (Bool.and_eq_true_iff.1 h).2 r hr)
 rw [wrap_id (by omega) (by omega)] at this
 exact this
theorem compare2 (a b c d : Int) : Ev (fun k => slices_Compare_int_int.f k [a, b] [c, d]) (if a < c then -1 else if a > c then 1 else if b < d then -1 else if b > d then 1 else 0) := by
 have hc : ∀ x y : Int, cmp_Compare_int.f x y = some (if x < y then -1 else if x > y then 1 else 0) := by
  intro x y
  unfold cmp_Compare_int.f cmp_isNaN_int.f
  simp only [bne_self_eq_false, Option.bind_some, Bool.false_eq_true, if_false]
  split
  ·rfl
  ·split <;> rfl
 have hl : ∀ x y : Int, (([x, y] : List Int).length : Int) = 2 := fun _ _ => rfl
 unfold slices_Compare_int_int.f
 refine Ev.step (fun k => by rw [slices_Compare_int_int.l0]) ?_
 rw [hl, hl]
 refine ev_pos (by omega) (ev_pos (by omega) (ev_pos (by omega) (ev_neg (by omega) (ev_pos (by omega) (ev_bind0 (hc _ _) ?_)))))
 rw [show rd [a, b] 0 = a from rfl, show rd [c, d] 0 = c from rfl]
 by_cases h1 : a < c
 ·rw [if_pos h1, if_pos h1]
  exact ev_neg (by omega) (Ev.now _)
 ·rw [if_neg h1, if_neg h1]
  by_cases h2 : a > c
  ·rw [if_pos h2, if_pos h2]
   exact ev_neg (by omega) (Ev.now _)
  ·rw [if_neg h2, if_neg h2]
   refine ev_pos rfl ?_
   rw [wrap_id (x := 0 + 1) (by omega) (by omega)]
   refine Ev.step (fun k => by rw [slices_Compare_int_int.l0]) ?_
   rw [hl, hl]
   refine ev_pos (by omega) (ev_pos (by omega) (ev_pos (by omega) (ev_neg (by omega) (ev_pos (by omega) (ev_bind0 (hc _ _) ?_)))))
   rw [show rd [a, b] (0 + 1) = b from rfl, show rd [c, d] (0 + 1) = d from rfl]
   by_cases h3 : b < d
   ·rw [if_pos h3]
    exact ev_neg (by omega) (Ev.now _)
   ·rw [if_neg h3]
    by_cases h4 : b > d
    ·rw [if_pos h4]
     exact ev_neg (by omega) (Ev.now _)
    ·rw [if_neg h4]
     refine ev_pos rfl ?_
     rw [wrap_id (x := 0 + 1 + 1) (by omega) (by omega)]
     refine Ev.step (fun k => by rw [slices_Compare_int_int.l0]) ?_
     rw [hl, hl]
     exact ev_neg (by omega) (ev_neg (by omega) (Ev.now _))
theorem two_of {r : List Int} (h : r.length = 2) : r = [rd r 0, rd r 1] := by
 match r, h with
 | [a, b], _ => rfl
theorem compare_rows (q z : List Int) (hq : q.length = 2) (hz : z.length = 2) : ∃ c : Int, Ev (fun k => slices_Compare_int_int.f k q z) c ∧ (c ≥ 0 ↔ lexLt q z = false) := by
 refine ⟨_, by rw [two_of hq, two_of hz]; exact compare2 _ _ _ _, ?_⟩
 unfold lexLt
 rw [decide_eq_false_iff_not]
 generalize rd q 0 = a
 generalize rd q 1 = b
 generalize rd z 0 = c
 generalize rd z 1 = d
 split
 ·omega
 ·split
  ·omega
  ·split
   ·omega
   ·split <;> omega
theorem isClaim_eq (n : Int) (xs : List (List Int)) (a : Int) : impl_isClaim.f n xs a = some (decide (0 ≤ a ∧ a ≤ wrap64 (n - 1))) := by
 unfold impl_isClaim.f
 rw [inRange_eq]
 rfl
theorem isGraph_impl_l0 (n : Int) (xs : List (List Int)) (hn : xs.length ≤ 1048576) : ∀ (zs : List (List Int)) (i : Nat) (p : Option (List Int)), xs.drop i = zs → (i = 0 ∧ p = none ∨ ∃ q, p = some q ∧ 0 < i ∧ xs[i - 1]? = some q ∧ q.length = 2) → Ev (fun k => impl_IsGraph.l0 k xs xs.length (i : Int) n xs) (rowsOk (wrap64 (n - 1)) p zs) := by
 intro zs
 induction zs with
 | nil =>
  intro i p h _
  have := at_end h
  refine Ev.step (fun k => by rw [impl_IsGraph.l0]) ?_
  exact ev_neg (by omega) (Ev.now _)
 | cons z zs ih =>
  intro i p h hp
  obtain ⟨hlt, hz, h2, _⟩ := at_drop h
  have hr : rd_L1 xs (i : Int) = z := getD_at hz
  refine Ev.step (fun k => by rw [impl_IsGraph.l0]) ?_
  refine ev_pos (by omega) (ev_pos (by omega) (ev_pos (by omega) ?_))
  rw [hr]
  have bad : rowOk (wrap64 (n - 1)) z = false → false = rowsOk (wrap64 (n - 1)) p (z :: zs) := by
   intro hb
   simp [rowsOk, hb]
  refine ev_ite (fun e1 => ev_pos (by omega) (ev_bind0 (isClaim_eq _ _ _) (ev_ite (fun e2 => ev_pos (by omega) (ev_bind0 (isClaim_eq _ _ _) (ev_ite (fun e3 => ?_) (fun e3 => ev_eq (Ev.now _) (bad ?_))))) (fun e2 => ev_eq (Ev.now _) (bad ?_))))) (fun e1 => ev_eq (Ev.now _) (bad ?_))
  ·have e2 := of_decide_eq_true e2
   have e3 := of_decide_eq_true e3
   have hok : rowOk (wrap64 (n - 1)) z = true := decide_eq_true ⟨by omega, e2.1, e2.2, e3.1, e3.2⟩
   have hl2 : z.length = 2 := by omega
   have ih2 := ih (i + 1) (some z) h2 (.inr ⟨z, rfl, by omega, hz, hl2⟩)
   rw [wrap_id (x := (i : Int) + 1) (by omega) (by omega)]
   rcases hp with ⟨hi0, rfl⟩ | ⟨q, rfl, hi0, hq, hq2⟩
   ·refine ev_neg (by omega) (ev_eq ih2 ?_)
    simp [rowsOk, hok]
   ·have hr2 : rd_L1 xs ((i : Int) - 1) = q := by
     rw [show (i : Int) - 1 = ((i - 1 : Nat) : Int) by omega]
     exact getD_at hq
    rw [wrap_id (x := (i : Int) - 1) (by omega) (by omega), hr2]
    obtain ⟨c, hc, hc2⟩ := compare_rows q z hq2 hl2
    refine ev_pos (by omega) (ev_pos (by omega) (ev_pos (by omega) (Ev.bind hc (ev_ite (fun e4 => ev_eq (Ev.now _) ?_) (fun e4 => ev_eq ih2 ?_)))))
    ·have := hc2.1 e4
     simp [rowsOk, this]
    ·have : lexLt q z = true := by
      cases hl : lexLt q z with
      | true => rfl
      | false => exact absurd (hc2.2 hl) e4
     simp [rowsOk, this, hok]
  ·have e3 : ¬ _ := fun h => e3 (decide_eq_true h)
   exact decide_eq_false (by rintro ⟨_, _, _, h4, h5⟩; exact e3 ⟨h4, h5⟩)
  ·have e2 : ¬ _ := fun h => e2 (decide_eq_true h)
   exact decide_eq_false (by rintro ⟨_, h2, h3, _⟩; exact e2 ⟨h2, h3⟩)
  ·exact decide_eq_false (by rintro ⟨h1, _⟩; omega)
theorem isGraph_impl (n : Int) (xs : List (List Int)) (hn : xs.length ≤ 1048576) : Ev (fun k => impl_IsGraph.f k n xs) (isGraph n xs) := by
 unfold impl_IsGraph.f isGraph
 refine ev_bind0 (inRange_eq _ _ _) (ev_ite (fun e => ?_) (fun e => ev_eq (Ev.now _) ?_))
 ·rw [e, Bool.true_and]
  exact isGraph_impl_l0 n xs hn xs 0 none rfl (.inl ⟨rfl, rfl⟩)
 ·rw [show decide (0 ≤ n ∧ n ≤ 10) = false by simpa using e, Bool.false_and]
def victims (n : Int) (xs : List (List Int)) (a : Int) : List Int := if isGraph n xs then (xs.filter fun r => decide (rd r 0 = a)).map fun r => rd r 1 else []
def attackers (n : Int) (xs : List (List Int)) (a : Int) : List Int := if isGraph n xs then (xs.filter fun r => decide (rd r 1 = a)).map fun r => rd r 0 else []
def does (n : Int) (xs : List (List Int)) (a b : Int) : Bool := isGraph n xs && xs.any fun r => decide (rd r 0 = a ∧ rd r 1 = b)
theorem victims_length (n : Int) (xs : List (List Int)) (a : Int) : (victims n xs a).length ≤ xs.length := by
 unfold victims
 split
 ·rw [List.length_map]; exact List.length_filter_le _ _
 ·simp
theorem attackers_length (n : Int) (xs : List (List Int)) (a : Int) : (attackers n xs a).length ≤ xs.length := by
 unfold attackers
 split
 ·rw [List.length_map]; exact List.length_filter_le _ _
 ·simp
theorem victims_mem (n : Int) (xs : List (List Int)) (a b : Int) : decide (b ∈ victims n xs a) = does n xs a b := by
 rw [Bool.eq_iff_iff, decide_eq_true_eq]
 unfold victims does
 cases isGraph n xs with
 | false => simp
 | true =>
  rw [if_pos rfl, Bool.true_and, List.any_eq_true, List.mem_map]
  constructor
  ·rintro ⟨r, hr, rfl⟩
   rw [List.mem_filter] at hr
   exact ⟨r, hr.1, decide_eq_true ⟨of_decide_eq_true hr.2, rfl⟩⟩
  ·rintro ⟨r, hr, h⟩
   have h := of_decide_eq_true h
   exact ⟨r, List.mem_filter.2 ⟨hr, decide_eq_true h.1⟩, h.2⟩
theorem does_range {n : Int} {xs : List (List Int)} {a b : Int} (h : does n xs a b = true) : 0 ≤ a ∧ a ≤ n - 1 ∧ 0 ≤ b ∧ b ≤ n - 1 := by
 unfold does at h
 rw [Bool.and_eq_true, List.any_eq_true] at h
 obtain ⟨hg, r, hr, h2⟩ := h
 have h2 := of_decide_eq_true h2
 have := isGraph_row hg hr
 rw [h2.1, h2.2] at this
 exact ⟨this.2.1, this.2.2.1, this.2.2.2.1, this.2.2.2.2⟩
theorem doesAttack_l0 (n : Int) (xs : List (List Int)) (a b : Int) (hn : xs.length ≤ 1048576) : ∀ (zs : List (List Int)) (i : Nat), xs.drop i = zs → Ev (fun k => spec_DoesAttack.l0 k a b (i : Int) n xs) (isGraph n xs && zs.any fun r => decide (rd r 0 = a ∧ rd r 1 = b)) := by
 intro zs
 induction zs with
 | nil =>
  intro i h
  have := at_end h
  refine Ev.step (fun k => by rw [spec_DoesAttack.l0]) ?_
  refine ev_neg (by omega) (Ev.step (fun k => by rw [spec_DoesAttack.j1]) (ev_neg (by decide) (ev_eq (Ev.now _) ?_)))
  simp
 | cons z zs ih =>
  intro i h
  obtain ⟨hlt, hz, h2, _⟩ := at_drop h
  have hr : rd_L1 xs (i : Int) = z := getD_at hz
  refine Ev.step (fun k => by rw [spec_DoesAttack.l0]) ?_
  refine ev_pos (by omega) (Ev.bind (isGraph_spec n xs hn) (Ev.step (fun k => by rw [spec_DoesAttack.j1]) (ev_ite (fun e => ?_) (fun e => ev_eq (Ev.now _) ?_))))
  ·have hg := isGraph_row e (List.mem_of_getElem? hz)
   have ih2 := ih (i + 1) h2
   rw [hr, wrap_id (x := (i : Int) + 1) (by omega) (by omega)]
   rw [List.any_cons]
   refine ev_pos (by omega) (ev_pos (by omega) (ev_pos (by omega) (ev_ite (fun e2 => ev_pos (by omega) (ev_ite (fun e3 => ev_eq (Ev.now _) ?_) (fun e3 => ev_eq ih2 ?_))) (fun e2 => ev_eq ih2 ?_))))
   ·rw [e, decide_eq_true (⟨e2, e3⟩ : rd z 0 = a ∧ rd z 1 = b)]; rfl
   ·rw [decide_eq_false (fun h : rd z 0 = a ∧ rd z 1 = b => e3 h.2), Bool.false_or]
   ·rw [decide_eq_false (fun h : rd z 0 = a ∧ rd z 1 = b => e2 h.1), Bool.false_or]
  ·rw [show isGraph n xs = false by simpa using e, Bool.false_and]
theorem doesAttack_spec (n : Int) (xs : List (List Int)) (a b : Int) (hn : xs.length ≤ 1048576) : Ev (fun k => spec_DoesAttack.f k n xs a b) (does n xs a b) := by
 unfold spec_DoesAttack.f
 exact doesAttack_l0 n xs a b hn xs 0 rfl
theorem victims_l0 (n : Int) (xs : List (List Int)) (a : Int) (hg : isGraph n xs = true) (hn : xs.length ≤ 1048576) : ∀ (zs : List (List Int)) (i : Nat) (acc : List Int), xs.drop i = zs → acc.length ≤ i → Ev (fun k => impl_VictimsOf.l0 k a acc xs xs.length (i : Int)) (acc ++ (zs.filter fun r => decide (rd r 0 = a)).map fun r => rd r 1) := by
 intro zs
 induction zs with
 | nil =>
  intro i acc h _
  have := at_end h
  refine Ev.step (fun k => by rw [impl_VictimsOf.l0]) ?_
  exact ev_neg (by omega) (ev_eq (Ev.now _) (by simp))
 | cons z zs ih =>
  intro i acc h hl
  obtain ⟨hlt, hz, h2, _⟩ := at_drop h
  have hr : rd_L1 xs (i : Int) = z := getD_at hz
  have hg := isGraph_row hg (List.mem_of_getElem? hz)
  refine Ev.step (fun k => by rw [impl_VictimsOf.l0]) ?_
  rw [hr, wrap_id (x := (i : Int) + 1) (by omega) (by omega)]
  refine ev_pos (by omega) (ev_pos (by omega) (ev_pos (by omega) (ev_pos (by omega) (ev_ite (fun e2 => ev_pos (by omega) (ev_pos (by omega) (ev_eq (ih (i + 1) (acc ++ [rd z 1]) h2 (by first | (simp; done) | (simp; omega))) ?_))) (fun e2 => ev_eq (ih (i + 1) acc h2 (by omega)) ?_)))))
  ·rw [List.filter_cons_of_pos (by simp [e2])]; simp
  ·rw [List.filter_cons_of_neg (by simp [e2])]
theorem victims_impl (n : Int) (xs : List (List Int)) (a : Int) (hn : xs.length ≤ 1048576) : Ev (fun k => impl_VictimsOf.f k n xs a) (victims n xs a) := by
 unfold impl_VictimsOf.f victims
 refine ev_bind0 rfl (Ev.bind (isGraph_impl n xs hn) (ev_ite (fun e => ?_) (fun e => ev_eq (Ev.now _) ?_)))
 ·rw [if_pos e]
  exact victims_l0 n xs a e hn xs 0 [] rfl (by simp)
 ·rw [if_neg e]
theorem doesAttack_impl (n : Int) (xs : List (List Int)) (a b : Int) (hn : xs.length ≤ 1048576) : Ev (fun k => impl_DoesAttack.f k n xs a b) (does n xs a b) := by
 unfold impl_DoesAttack.f
 have := victims_length n xs a
 exact Ev.bind (victims_impl n xs a hn) (Ev.bind (containsInt_ev _ b (by omega)) (ev_eq (Ev.now _) (victims_mem n xs a b)))
theorem attackers_l0 (n : Int) (xs : List (List Int)) (a : Int) (hg : isGraph n xs = true) (hn : xs.length ≤ 1048576) : ∀ (zs : List (List Int)) (i : Nat) (acc : List Int), xs.drop i = zs → acc.length ≤ i → Ev (fun k => impl_AttackersOf.l0 k a acc xs xs.length (i : Int)) (acc ++ (zs.filter fun r => decide (rd r 1 = a)).map fun r => rd r 0) := by
 intro zs
 induction zs with
 | nil =>
  intro i acc h _
  have := at_end h
  refine Ev.step (fun k => by rw [impl_AttackersOf.l0]) ?_
  exact ev_neg (by omega) (ev_eq (Ev.now _) (by simp))
 | cons z zs ih =>
  intro i acc h hl
  obtain ⟨hlt, hz, h2, _⟩ := at_drop h
  have hr : rd_L1 xs (i : Int) = z := getD_at hz
  have hg := isGraph_row hg (List.mem_of_getElem? hz)
  refine Ev.step (fun k => by rw [impl_AttackersOf.l0]) ?_
  rw [hr, wrap_id (x := (i : Int) + 1) (by omega) (by omega)]
  refine ev_pos (by omega) (ev_pos (by omega) (ev_pos (by omega) (ev_pos (by omega) (ev_ite (fun e2 => ev_pos (by omega) (ev_pos (by omega) (ev_eq (ih (i + 1) (acc ++ [rd z 0]) h2 (by first | (simp; done) | (simp; omega))) ?_))) (fun e2 => ev_eq (ih (i + 1) acc h2 (by omega)) ?_)))))
  ·rw [List.filter_cons_of_pos (by simp [e2])]; simp
  ·rw [List.filter_cons_of_neg (by simp [e2])]
theorem attackers_impl (n : Int) (xs : List (List Int)) (a : Int) (hn : xs.length ≤ 1048576) : Ev (fun k => impl_AttackersOf.f k n xs a) (attackers n xs a) := by
 unfold impl_AttackersOf.f attackers
 refine ev_bind0 rfl (Ev.bind (isGraph_impl n xs hn) (ev_ite (fun e => ?_) (fun e => ev_eq (Ev.now _) ?_)))
 ·rw [if_pos e]
  exact attackers_l0 n xs a e hn xs 0 [] rfl (by simp)
 ·rw [if_neg e]
theorem attackersS_l0 (n : Int) (xs : List (List Int)) (a : Int) (hn : xs.length ≤ 1048576) : ∀ (zs : List (List Int)) (i : Nat) (acc : List Int), xs.drop i = zs → acc.length ≤ i → Ev (fun k => spec_AttackersOf.l0 k a acc (i : Int) n xs) (acc ++ if isGraph n xs then (zs.filter fun r => decide (rd r 1 = a)).map fun r => rd r 0 else []) := by
 intro zs
 induction zs with
 | nil =>
  intro i acc h _
  have := at_end h
  refine Ev.step (fun k => by rw [spec_AttackersOf.l0]) ?_
  exact ev_neg (by omega) (Ev.step (fun k => by rw [spec_AttackersOf.j1]) (ev_neg (by decide) (ev_eq (Ev.now _) (by simp))))
 | cons z zs ih =>
  intro i acc h hl
  obtain ⟨hlt, hz, h2, _⟩ := at_drop h
  have hr : rd_L1 xs (i : Int) = z := getD_at hz
  refine Ev.step (fun k => by rw [spec_AttackersOf.l0]) ?_
  refine ev_pos (by omega) (Ev.bind (isGraph_spec n xs hn) (Ev.step (fun k => by rw [spec_AttackersOf.j1]) (ev_ite (fun e => ?_) (fun e => ev_eq (Ev.now _) ?_))))
  ·have hg := isGraph_row e (List.mem_of_getElem? hz)
   rw [hr, wrap_id (x := (i : Int) + 1) (by omega) (by omega)]
   refine ev_pos (by omega) (ev_pos (by omega) (ev_pos (by omega) (ev_ite (fun e2 => ev_pos (by omega) (ev_pos (by omega) (ev_eq (ih (i + 1) (acc ++ [rd z 0]) h2 (by first | (simp; done) | (simp; omega))) ?_))) (fun e2 => ev_eq (ih (i + 1) acc h2 (by omega)) ?_))))
   ·rw [if_pos e, if_pos e, List.filter_cons_of_pos (by simp [e2])]; simp
   ·rw [if_pos e, if_pos e, List.filter_cons_of_neg (by simp [e2])]
  ·rw [if_neg e, List.append_nil]
theorem attackers_spec (n : Int) (xs : List (List Int)) (a : Int) (hn : xs.length ≤ 1048576) : Ev (fun k => spec_AttackersOf.f k n xs a) (attackers n xs a) := by
 unfold spec_AttackersOf.f attackers
 exact attackersS_l0 n xs a hn xs 0 [] rfl (by simp)
def answers (n : Int) (xs : List (List Int)) (own : List Int) (a : Int) : List Int := (attackers n xs a).filter fun x => !decide (x ∈ own)
theorem answersS_l0 (own ys : List Int) (ho : own.length ≤ 9223372036854775807) (hn : ys.length ≤ 1048576) : ∀ (zs : List Int) (i : Nat) (acc : List Int), ys.drop i = zs → acc.length ≤ i → Ev (fun k => spec_AnswersTo.l0 k own acc ys (i : Int)) (acc ++ zs.filter fun x => !decide (x ∈ own)) := by
 intro zs
 induction zs with
 | nil =>
  intro i acc h _
  have := at_end h
  refine Ev.step (fun k => by rw [spec_AnswersTo.l0]) ?_
  exact ev_neg (by omega) (ev_eq (Ev.now _) (by simp))
 | cons z zs ih =>
  intro i acc h hl
  obtain ⟨hlt, hz, h2, _⟩ := at_drop h
  refine Ev.step (fun k => by rw [spec_AnswersTo.l0]) ?_
  rw [rd_get hz, wrap_id (x := (i : Int) + 1) (by omega) (by omega)]
  refine ev_pos (by omega) (ev_pos (by omega) (Ev.bind (l4Has_ev own z ho) (ev_ite (fun e2 => ev_eq (ih (i + 1) acc h2 (by omega)) ?_) (fun e2 => ev_pos (by omega) (ev_eq (ih (i + 1) (acc ++ [z]) h2 (by first | (simp; done) | (simp; omega))) ?_)))))
  ·rw [List.filter_cons_of_neg (by simpa using e2)]
  ·rw [List.filter_cons_of_pos (by simpa using e2)]; simp
theorem answers_spec (n : Int) (xs : List (List Int)) (own : List Int) (a : Int) (hn : xs.length ≤ 1048576) (ho : own.length ≤ 9223372036854775807) : Ev (fun k => spec_AnswersTo.f k n xs own a) (answers n xs own a) := by
 unfold spec_AnswersTo.f
 have := attackers_length n xs a
 exact Ev.bind (attackers_spec n xs a hn) (answersS_l0 own _ ho (by omega) _ 0 [] rfl (by simp))
theorem answersI_l0 (own ys : List Int) (ho : own.length ≤ 9223372036854775807) (hn : ys.length ≤ 1048576) : ∀ (zs : List Int) (i : Nat) (acc : List Int), ys.drop i = zs → acc.length ≤ i → Ev (fun k => impl_AnswersTo.l0 k own acc ys ys.length (i : Int)) (acc ++ zs.filter fun x => !decide (x ∈ own)) := by
 intro zs
 induction zs with
 | nil =>
  intro i acc h _
  have := at_end h
  refine Ev.step (fun k => by rw [impl_AnswersTo.l0]) ?_
  exact ev_neg (by omega) (ev_eq (Ev.now _) (by simp))
 | cons z zs ih =>
  intro i acc h hl
  obtain ⟨hlt, hz, h2, _⟩ := at_drop h
  refine Ev.step (fun k => by rw [impl_AnswersTo.l0]) ?_
  rw [rd_get hz, wrap_id (x := (i : Int) + 1) (by omega) (by omega)]
  refine ev_pos (by omega) (ev_pos (by omega) (ev_pos (by omega) (Ev.bind (containsInt_ev own z ho) (ev_ite (fun e2 => ev_eq (ih (i + 1) acc h2 (by omega)) ?_) (fun e2 => ev_pos (by omega) (ev_eq (ih (i + 1) (acc ++ [z]) h2 (by first | (simp; done) | (simp; omega))) ?_))))))
  ·rw [List.filter_cons_of_neg (by simpa using e2)]
  ·rw [List.filter_cons_of_pos (by simpa using e2)]; simp
theorem answers_impl (n : Int) (xs : List (List Int)) (own : List Int) (a : Int) (hn : xs.length ≤ 1048576) (ho : own.length ≤ 9223372036854775807) : Ev (fun k => impl_AnswersTo.f k n xs own a) (answers n xs own a) := by
 unfold impl_AnswersTo.f
 have := attackers_length n xs a
 exact Ev.bind (attackers_impl n xs a hn) (answersI_l0 own _ ho (by omega) _ 0 [] rfl (by simp))
def evens : List Int → List Int
 | [] => []
 | [a] => [a]
 | a :: _ :: r => a :: evens r
theorem evens_get : ∀ (cs : List Int) (k : Nat), (evens cs)[k]? = cs[2 * k]?
 | [], k => by simp [evens]
 | [a], k => by
  cases k with
  | zero => rfl
  | succ k => simp [evens]
 | a :: b :: r, k => by
  cases k with
  | zero => rfl
  | succ k =>
   rw [evens, List.getElem?_cons_succ, evens_get r k, show 2 * (k + 1) = 2 * k + 1 + 1 by omega, List.getElem?_cons_succ, List.getElem?_cons_succ]
theorem evens_length : ∀ (cs : List Int), (evens cs).length = (cs.length + 1) / 2
 | [] => rfl
 | [a] => by simp [evens]
 | a :: b :: r => by
  rw [evens, List.length_cons, evens_length r, List.length_cons, List.length_cons]
  omega
theorem evens_l0 (xs : List Int) (hn : xs.length ≤ 1048576) : ∀ (zs : List Int) (i : Nat) (acc : List Int), xs.drop i = zs → i ≤ xs.length + 1 → acc.length ≤ i → Ev (fun k => impl_evens.l0 k xs acc (i : Int)) (acc ++ evens zs)
 | [], i, acc, h, _, _ => by
  have := at_end h
  refine Ev.step (fun k => by rw [impl_evens.l0]) ?_
  exact ev_neg (by omega) (ev_eq (Ev.now _) (by simp [evens]))
 | [a], i, acc, h, hi, hl => by
  obtain ⟨hlt, hz, h2, _⟩ := at_drop h
  have he := at_end h2
  refine Ev.step (fun k => by rw [impl_evens.l0]) ?_
  rw [rd_get hz, wrap_id (x := (i : Int) + 2) (by omega) (by omega)]
  refine ev_pos (by omega) (ev_pos (by omega) (ev_pos (by omega) ?_))
  refine ev_eq (evens_l0 xs hn [] (i + 2) (acc ++ [a]) (List.drop_of_length_le (by omega)) (by omega) (by first | (simp; done) | (simp; omega))) ?_
  simp [evens]
 | a :: b :: r, i, acc, h, hi, hl => by
  obtain ⟨hlt, hz, h2, _⟩ := at_drop h
  obtain ⟨hlt2, _, h3, _⟩ := at_drop h2
  refine Ev.step (fun k => by rw [impl_evens.l0]) ?_
  rw [rd_get hz, wrap_id (x := (i : Int) + 2) (by omega) (by omega)]
  refine ev_pos (by omega) (ev_pos (by omega) (ev_pos (by omega) ?_))
  refine ev_eq (evens_l0 xs hn r (i + 2) (acc ++ [a]) h3 (by omega) (by first | (simp; done) | (simp; omega))) ?_
  simp [evens]
theorem evens_ev (xs : List Int) (hn : xs.length ≤ 1048576) : Ev (fun k => impl_evens.f k xs) (evens xs) := by
 unfold impl_evens.f
 exact evens_l0 xs hn xs 0 [] rfl (by omega) (by simp)
def LineAt (n : Int) (xs : List (List Int)) (cs : List Int) (i : Nat) : Prop := (0 ≤ rd cs i ∧ rd cs i ≤ wrap64 (n - 1)) ∧ (0 < i → does n xs (rd cs i) (rd cs (i - 1 : Nat)) = true) ∧ (i % 2 = 0 → ∀ j : Nat, j < i → j % 2 = 0 → rd cs j ≠ rd cs i)
def LineP (n : Int) (xs : List (List Int)) (cs : List Int) : Prop := isGraph n xs = true ∧ 0 < cs.length ∧ ∀ i : Nat, i < cs.length → LineAt n xs cs i
theorem isLine_l1 (n : Int) (xs : List (List Int)) (cs : List Int) (hc : cs.length ≤ 1048576) (i : Nat) (hi : i < cs.length) (b0 : Bool) (h0 : Ev (fun k => spec_IsLine.l0 k cs ((i + 1 : Nat) : Int) n xs) b0) : ∀ (d j : Nat), i ≤ j + 2 * d → j ≤ i + 1 → j % 2 = i % 2 → ∃ b, Ev (fun k => spec_IsLine.l1 k cs (i : Int) (j : Int) n xs) b ∧ (b = true ↔ (i % 2 = 0 → ∀ j' : Nat, j ≤ j' → j' < i → j' % 2 = 0 → rd cs j' ≠ rd cs i) ∧ b0 = true) := by
 intro d
 have hend : ∀ j : Nat, i ≤ j → ∃ b, Ev (fun k => spec_IsLine.l1 k cs (i : Int) (j : Int) n xs) b ∧ (b = true ↔ (i % 2 = 0 → ∀ j' : Nat, j ≤ j' → j' < i → j' % 2 = 0 → rd cs j' ≠ rd cs i) ∧ b0 = true) := by
  intro j hj
  refine ⟨b0, Ev.step (fun k => by rw [spec_IsLine.l1]) (ev_neg (by omega) ?_), ?_⟩
  ·rw [wrap_id (by omega) (by omega)]
   exact h0
  ·exact ⟨fun h => ⟨fun _ j' h1 h2 => by omega, h⟩, fun h => h.2⟩
 induction d with
 | zero => intro j h1 _ _; exact hend j (by omega)
 | succ d ih =>
  intro j h1 h2 h3
  by_cases hj : i ≤ j
  ·exact hend j hj
  ·obtain ⟨b, hb, hb2⟩ := ih (j + 2) (by omega) (by omega) (by omega)
   have hm : Int.tmod (i : Int) 2 = ((i % 2 : Nat) : Int) := by rw [Int.tmod_eq_emod_of_nonneg (by omega)]; omega
   have hw : wrap64 ((j : Int) + 2) = ((j + 2 : Nat) : Int) := wrap_id (by omega) (by omega)
   by_cases hev : i % 2 = 0
   ·by_cases hr : rd cs (j : Int) = rd cs (i : Int)
    ·refine ⟨false, Ev.step (fun k => by rw [spec_IsLine.l1]) ?_, ?_⟩
     ·rw [hm]
      exact ev_pos (by omega) (ev_pos (by omega) (ev_pos (by omega) (ev_pos (by omega) (ev_pos (by omega) (ev_pos (by omega) (ev_pos hr (Ev.now _)))))))
     ·exact ⟨fun h => absurd h (by decide), fun h => absurd hr (h.1 hev j (Nat.le_refl _) (by omega) (by omega))⟩
    ·refine ⟨b, Ev.step (fun k => by rw [spec_IsLine.l1]) ?_, hb2.trans ⟨fun h => ⟨fun hz j' a1 a2 a3 => ?_, h.2⟩, fun h => ⟨fun hz j' a1 a2 a3 => h.1 hz j' (by omega) a2 a3, h.2⟩⟩⟩
     ·rw [hm, hw]
      exact ev_pos (by omega) (ev_pos (by omega) (ev_pos (by omega) (ev_pos (by omega) (ev_pos (by omega) (ev_pos (by omega) (ev_neg hr hb))))))
     ·by_cases hjj : j' = j
      ·subst hjj; exact hr
      ·exact h.1 hz j' (by omega) a2 a3
   ·refine ⟨b, Ev.step (fun k => by rw [spec_IsLine.l1]) ?_, hb2.trans ⟨fun h => ⟨fun hz => absurd hz hev, h.2⟩, fun h => ⟨fun hz => absurd hz hev, h.2⟩⟩⟩
    rw [hm, hw]
    exact ev_pos (by omega) (ev_neg (by omega) hb)
theorem isLine_l0 (n : Int) (xs : List (List Int)) (cs : List Int) (hn : xs.length ≤ 1048576) (hc : cs.length ≤ 1048576) : ∀ (d i : Nat), i + d = cs.length → ∃ b, Ev (fun k => spec_IsLine.l0 k cs (i : Int) n xs) b ∧ (b = true ↔ 0 < cs.length ∧ ∀ i' : Nat, i ≤ i' → i' < cs.length → LineAt n xs cs i') := by
 intro d
 induction d with
 | zero =>
  intro i h
  refine ⟨decide ((cs.length : Int) > 0), Ev.step (fun k => by rw [spec_IsLine.l0]) (ev_neg (by omega) (Ev.now _)), ?_⟩
  rw [decide_eq_true_eq]
  exact ⟨fun h => ⟨by omega, fun i' a b => by omega⟩, fun h => by omega⟩
 | succ d ih =>
  intro i h
  obtain ⟨b0, hb0, hb02⟩ := ih (i + 1) (by omega)
  have hm : Int.tmod (i : Int) 2 = ((i % 2 : Nat) : Int) := by rw [Int.tmod_eq_emod_of_nonneg (by omega)]; omega
  obtain ⟨b1, hb1, hb12⟩ := isLine_l1 n xs cs hc i (by omega) b0 hb0 i (i % 2) (by omega) (by omega) (by omega)
  have hj : Ev (fun k => spec_IsLine.j1 k cs (i : Int) true n xs) false := Ev.step (fun k => by rw [spec_IsLine.j1]) (ev_pos rfl (Ev.now _))
  have hgo : Ev (fun k => spec_IsLine.j1 k cs (i : Int) false n xs) b1 := by
   refine Ev.step (fun k => by rw [spec_IsLine.j1]) (ev_neg (by decide) ?_)
   rw [hm]
   exact hb1
  have hall : (b1 = true ∧ (0 ≤ rd cs i ∧ rd cs i ≤ wrap64 (n - 1)) ∧ (0 < i → does n xs (rd cs i) (rd cs (i - 1 : Nat)) = true)) ↔ (0 < cs.length ∧ ∀ i' : Nat, i ≤ i' → i' < cs.length → LineAt n xs cs i') := by
   rw [hb12, hb02]
   constructor
   ·rintro ⟨⟨h1, h2, h3⟩, h4, h5⟩
    refine ⟨h2, fun i' a b => ?_⟩
    by_cases hii : i' = i
    ·subst hii
     refine ⟨h4, h5, fun hz j hj1 hj2 => h1 hz j ?_ hj1 hj2⟩
     omega
    ·exact h3 i' (by omega) b
   ·rintro ⟨h2, h3⟩
    have hat := h3 i (Nat.le_refl _) (by omega)
    exact ⟨⟨fun hz j _ b c => hat.2.2 hz j b c, h2, fun i' a b => h3 i' (by omega) b⟩, hat.1, hat.2.1⟩
  have hlt : (i : Int) < (cs.length : Int) := by omega
  by_cases hr : 0 ≤ rd cs i ∧ rd cs i ≤ wrap64 (n - 1)
  ·by_cases h0 : 0 < i
   ·have hw : wrap64 ((i : Int) - 1) = ((i - 1 : Nat) : Int) := by rw [wrap_id (by omega) (by omega)]; omega
    cases hd : does n xs (rd cs i) (rd cs (i - 1 : Nat)) with
    | true =>
     refine ⟨b1, Ev.step (fun k => by rw [spec_IsLine.l0]) ?_, ?_⟩
     ·refine ev_pos hlt (ev_pos (by omega) (ev_bind0 (l1In_eq _ _ _) (ev_pos (decide_eq_true hr) (ev_pos (by omega) ?_))))
      rw [hw]
      refine ev_pos (by omega) (ev_pos (by omega) (Ev.bind (doesAttack_spec n xs _ _ hn) ?_))
      rw [hd]
      exact hgo
     ·rw [← hall]; exact ⟨fun h => ⟨h, hr, fun _ => hd⟩, fun h => h.1⟩
    | false =>
     refine ⟨false, Ev.step (fun k => by rw [spec_IsLine.l0]) ?_, ?_⟩
     ·refine ev_pos hlt (ev_pos (by omega) (ev_bind0 (l1In_eq _ _ _) (ev_pos (decide_eq_true hr) (ev_pos (by omega) ?_))))
      rw [hw]
      refine ev_pos (by omega) (ev_pos (by omega) (Ev.bind (doesAttack_spec n xs _ _ hn) ?_))
      rw [hd]
      exact hj
     ·rw [← hall]; exact ⟨fun h => absurd h (by decide), fun h => absurd (h.2.2 h0) (by rw [hd]; decide)⟩
   ·refine ⟨b1, Ev.step (fun k => by rw [spec_IsLine.l0]) ?_, ?_⟩
    ·exact ev_pos hlt (ev_pos (by omega) (ev_bind0 (l1In_eq _ _ _) (ev_pos (decide_eq_true hr) (ev_neg (by omega) hgo))))
    ·rw [← hall]; exact ⟨fun h => ⟨h, hr, fun h => absurd h h0⟩, fun h => h.1⟩
  ·refine ⟨false, Ev.step (fun k => by rw [spec_IsLine.l0]) ?_, ?_⟩
   ·exact ev_pos hlt (ev_pos (by omega) (ev_bind0 (l1In_eq _ _ _) (ev_neg (fun h => hr (of_decide_eq_true h)) hj)))
   ·rw [← hall]; exact ⟨fun h => absurd h (by decide), fun h => absurd h.2.1 hr⟩
theorem isLine_spec (n : Int) (xs : List (List Int)) (cs : List Int) (hn : xs.length ≤ 1048576) (hc : cs.length ≤ 1048576) : ∃ b, Ev (fun k => spec_IsLine.f k n xs cs) b ∧ (b = true ↔ LineP n xs cs) := by
 unfold spec_IsLine.f
 obtain ⟨b, hb, hb2⟩ := isLine_l0 n xs cs hn hc cs.length 0 (by omega)
 cases hg : isGraph n xs with
 | true =>
  refine ⟨b, Ev.bind (isGraph_spec n xs hn) (ev_pos hg hb), hb2.trans ⟨fun h => ⟨hg, h.1, fun i hi => h.2 i (by omega) hi⟩, fun h => ⟨h.2.1, fun i _ hi => h.2.2 i hi⟩⟩⟩
 | false =>
  refine ⟨false, Ev.bind (isGraph_spec n xs hn) (ev_neg (by rw [hg]; decide) (Ev.now _)), ⟨fun h => absurd h (by decide), fun h => absurd h.1 (by rw [hg]; decide)⟩⟩
theorem isLineI_l1 (es : List Int) (hn : es.length ≤ 1048576) : ∀ (d i : Nat), i + d = es.length → ∃ b, Ev (fun k => impl_IsLine.l1 k es es es.length (i : Int)) b ∧ (b = true ↔ ∀ k : Nat, i ≤ k → k < es.length → rd es k ∉ es.take k) := by
 intro d
 induction d with
 | zero =>
  intro i h
  exact ⟨true, Ev.step (fun k => by rw [impl_IsLine.l1]) (ev_neg (by omega) (Ev.now _)), ⟨fun _ k a b => by omega, fun _ => rfl⟩⟩
 | succ d ih =>
  intro i h
  obtain ⟨b, hb, hb2⟩ := ih (i + 1) (by omega)
  have hlt : (es.take i).length ≤ 9223372036854775807 := by rw [List.length_take]; omega
  have hw : wrap64 ((i : Int) + 1) = ((i + 1 : Nat) : Int) := wrap_id (by omega) (by omega)
  by_cases hm : rd es i ∈ es.take i
  ·refine ⟨false, Ev.step (fun k => by rw [impl_IsLine.l1]) (ev_pos (by omega) (ev_pos (by omega) (ev_pos (by omega) (ev_pos (by omega) ?_)))), ⟨fun h => absurd h (by decide), fun h => absurd hm (h i (Nat.le_refl _) (by omega))⟩⟩
   rw [Int.toNat_natCast]
   exact Ev.bind (containsInt_ev _ _ hlt) (ev_pos (decide_eq_true hm) (Ev.now _))
  ·refine ⟨b, Ev.step (fun k => by rw [impl_IsLine.l1]) (ev_pos (by omega) (ev_pos (by omega) (ev_pos (by omega) (ev_pos (by omega) ?_)))), hb2.trans ⟨fun h k a c => ?_, fun h k a c => h k (by omega) c⟩⟩
   ·rw [Int.toNat_natCast, hw]
    exact Ev.bind (containsInt_ev _ _ hlt) (ev_neg (fun h => hm (of_decide_eq_true h)) hb)
   ·by_cases hk : k = i
    ·subst hk; exact hm
    ·exact h k (by omega) c
theorem isLineI_l0 (n : Int) (xs : List (List Int)) (cs : List Int) (hn : xs.length ≤ 1048576) (hc : cs.length ≤ 1048576) : ∀ (d i : Nat), i + d = cs.length → 1 ≤ i → ∃ b, Ev (fun k => impl_IsLine.l0 k cs (i : Int) n xs) b ∧ (b = true ↔ (∀ i' : Nat, i ≤ i' → i' < cs.length → does n xs (rd cs i') (rd cs (i' - 1 : Nat)) = true) ∧ ∀ k : Nat, k < (evens cs).length → rd (evens cs) k ∉ (evens cs).take k) := by
 intro d
 induction d with
 | zero =>
  intro i h _
  obtain ⟨b, hb, hb2⟩ := isLineI_l1 (evens cs) (by rw [evens_length]; omega) (evens cs).length 0 (by omega)
  refine ⟨b, Ev.step (fun k => by rw [impl_IsLine.l0]) (ev_neg (by omega) (Ev.bind (evens_ev cs hc) hb)), hb2.trans ⟨fun h => ⟨fun i' a b => by omega, fun k hk => h k (by omega) hk⟩, fun h k _ hk => h.2 k hk⟩⟩
 | succ d ih =>
  intro i h h1
  obtain ⟨b, hb, hb2⟩ := ih (i + 1) (by omega) (by omega)
  have hw : wrap64 ((i : Int) - 1) = ((i - 1 : Nat) : Int) := by rw [wrap_id (by omega) (by omega)]; omega
  have hw2 : wrap64 ((i : Int) + 1) = ((i + 1 : Nat) : Int) := wrap_id (by omega) (by omega)
  cases hd : does n xs (rd cs i) (rd cs (i - 1 : Nat)) with
  | true =>
   refine ⟨b, Ev.step (fun k => by rw [impl_IsLine.l0]) ?_, hb2.trans ⟨fun h => ⟨fun i' a c => ?_, h.2⟩, fun h => ⟨fun i' a c => h.1 i' (by omega) c, h.2⟩⟩⟩
   ·rw [hw, hw2]
    exact ev_pos (by omega) (ev_pos (by omega) (ev_pos (by omega) (ev_pos (by omega) (Ev.bind (doesAttack_impl n xs _ _ hn) (ev_pos hd hb)))))
   ·by_cases hk : i' = i
    ·subst hk; exact hd
    ·exact h.1 i' (by omega) c
  | false =>
   refine ⟨false, Ev.step (fun k => by rw [impl_IsLine.l0]) ?_, ⟨fun h => absurd h (by decide), fun h => absurd (h.1 i (Nat.le_refl _) (by omega)) (by rw [hd]; decide)⟩⟩
   rw [hw, hw2]
   exact ev_pos (by omega) (ev_pos (by omega) (ev_pos (by omega) (ev_pos (by omega) (Ev.bind (doesAttack_impl n xs _ _ hn) (ev_neg (by rw [hd]; decide) (Ev.now _))))))
theorem rd_evens (cs : List Int) (k : Nat) : rd (evens cs) k = rd cs (2 * k : Nat) := by
 unfold rd
 rw [Int.toNat_natCast, Int.toNat_natCast, List.getD_eq_getElem?_getD, List.getD_eq_getElem?_getD, evens_get]
theorem mem_take_rd (es : List Int) (x : Int) (k : Nat) (hk : k ≤ es.length) : x ∈ es.take k ↔ ∃ l : Nat, l < k ∧ rd es l = x := by
 rw [List.mem_iff_getElem?]
 constructor
 ·rintro ⟨l, hl⟩
  have hlk : l < k := by
   have := (List.getElem?_eq_some_iff.1 hl).1
   rw [List.length_take] at this
   omega
  rw [List.getElem?_take_of_lt hlk] at hl
  exact ⟨l, hlk, rd_get hl⟩
 ·rintro ⟨l, hl, rfl⟩
  refine ⟨l, ?_⟩
  rw [List.getElem?_take_of_lt hl]
  unfold rd
  rw [Int.toNat_natCast, List.getD_eq_getElem?_getD, List.getElem?_eq_getElem (by omega)]
  rfl
theorem isLine_impl (n : Int) (xs : List (List Int)) (cs : List Int) (hn : xs.length ≤ 1048576) (hc : cs.length ≤ 1048576) : ∃ b, Ev (fun k => impl_IsLine.f k n xs cs) b ∧ (b = true ↔ LineP n xs cs) := by
 unfold impl_IsLine.f
 have hj : Ev (fun k => impl_IsLine.j0 k cs true n xs) false := Ev.step (fun k => by rw [impl_IsLine.j0]) (ev_pos rfl (Ev.now _))
 cases hg : isGraph n xs with
 | false => exact ⟨false, Ev.bind (isGraph_impl n xs hn) (ev_neg (by rw [hg]; decide) hj), ⟨fun h => absurd h (by decide), fun h => absurd h.1 (by rw [hg]; decide)⟩⟩
 | true =>
  by_cases h0 : cs.length = 0
  ·exact ⟨false, Ev.bind (isGraph_impl n xs hn) (ev_pos hg (ev_pos (by omega) hj)), ⟨fun h => absurd h (by decide), fun h => absurd h.2.1 (by omega)⟩⟩
  ·by_cases hr : 0 ≤ rd cs 0 ∧ rd cs 0 ≤ wrap64 (n - 1)
   ·obtain ⟨b, hb, hb2⟩ := isLineI_l0 n xs cs hn hc (cs.length - 1) 1 (by omega) (by omega)
    refine ⟨b, Ev.bind (isGraph_impl n xs hn) (ev_pos hg (ev_neg (by omega) (ev_pos (by omega) (ev_bind0 (isClaim_eq _ _ _) ?_)))), hb2.trans ?_⟩
    ·rw [decide_eq_true hr]
     refine Ev.step (fun k => by rw [impl_IsLine.j0]) ?_
     exact ev_neg (by decide) hb
    ·have hn10 := isGraph_n hg
     have hw : wrap64 (n - 1) = n - 1 := wrap_id (by omega) (by omega)
     constructor
     ·rintro ⟨h1, h2⟩
      refine ⟨hg, by omega, fun i hi => ⟨?_, fun hi0 => h1 i hi0 hi, fun hz j hj hjz heq => ?_⟩⟩
      ·by_cases hi0 : i = 0
       ·subst hi0; exact hr
       ·have := does_range (h1 i (by omega) hi)
        rw [hw]; omega
      ·have := h2 (i / 2) (by rw [evens_length]; omega)
       rw [mem_take_rd _ _ _ (by rw [evens_length]; omega)] at this
       refine this ⟨j / 2, by omega, ?_⟩
       rw [rd_evens, rd_evens, show 2 * (j / 2) = j by omega, show 2 * (i / 2) = i by omega]
       exact heq
     ·rintro ⟨_, _, h3⟩
      refine ⟨fun i' a c => (h3 i' c).2.1 a, fun k hk hm => ?_⟩
      rw [evens_length] at hk
      rw [mem_take_rd _ _ _ (by rw [evens_length]; omega)] at hm
      obtain ⟨l, hl, he⟩ := hm
      rw [rd_evens, rd_evens] at he
      exact (h3 (2 * k) (by omega)).2.2 (by omega) (2 * l) (by omega) (by omega) he
   ·refine ⟨false, Ev.bind (isGraph_impl n xs hn) (ev_pos hg (ev_neg (by omega) (ev_pos (by omega) (ev_bind0 (isClaim_eq _ _ _) ?_)))), ⟨fun h => absurd h (by decide), fun h => absurd (h.2.2 0 (by omega)).1 hr⟩⟩
    rw [decide_eq_false hr]
    exact hj
theorem isLine_both (n : Int) (xs : List (List Int)) (cs : List Int) (hn : xs.length ≤ 1048576) (hc : cs.length ≤ 1048576) : ∃ b, Ev (fun k => spec_IsLine.f k n xs cs) b ∧ Ev (fun k => impl_IsLine.f k n xs cs) b ∧ (b = true → 0 < cs.length) := by
 obtain ⟨b, hb, hb2⟩ := isLine_spec n xs cs hn hc
 obtain ⟨c, hc1, hc2⟩ := isLine_impl n xs cs hn hc
 have : b = c := by rw [Bool.eq_iff_iff, hb2, hc2]
 subst this
 exact ⟨b, hb, hc1, fun h => (hb2.1 h).2.1⟩
theorem winnerS_l0 (n : Int) (xs : List (List Int)) (cs : List Int) (last : Int) (hn : xs.length ≤ 1048576) (hc : cs.length ≤ 1048576) (R : ByteArray) (hR : Ev (fun k => (spec_AnswersTo.f k n xs (evens cs) last).bind fun t => if (t.length : Int) = 0 then some (⟨#[115, 101, 99, 111, 110, 100]⟩ : ByteArray) else some (⟨#[110, 111, 110, 101]⟩ : ByteArray)) R) : ∀ (zs : List Int) (i : Nat) (acc : List Int), cs.drop i = zs → i ≤ cs.length + 1 → acc.length ≤ i → acc ++ evens zs = evens cs → Ev (fun k => spec_WinnerOf.l0 k cs last acc (i : Int) n xs) R
 | [], i, acc, h, _, _, he => by
  have := at_end h
  refine Ev.step (fun k => by rw [spec_WinnerOf.l0]) ?_
  rw [show acc = evens cs by simpa [evens] using he]
  exact ev_neg (by omega) hR
 | [a], i, acc, h, hi, hl, he => by
  obtain ⟨hlt, hz, h2, _⟩ := at_drop h
  have hee := at_end h2
  refine Ev.step (fun k => by rw [spec_WinnerOf.l0]) ?_
  rw [rd_get hz, wrap_id (x := (i : Int) + 2) (by omega) (by omega)]
  refine ev_pos (by omega) (ev_pos (by omega) (ev_pos (by omega) ?_))
  exact winnerS_l0 n xs cs last hn hc R hR [] (i + 2) (acc ++ [a]) (List.drop_of_length_le (by omega)) (by omega) (by first | (simp; done) | (simp; omega)) (by rw [← he]; simp [evens])
 | a :: b :: r, i, acc, h, hi, hl, he => by
  obtain ⟨hlt, hz, h2, _⟩ := at_drop h
  obtain ⟨hlt2, _, h3, _⟩ := at_drop h2
  refine Ev.step (fun k => by rw [spec_WinnerOf.l0]) ?_
  rw [rd_get hz, wrap_id (x := (i : Int) + 2) (by omega) (by omega)]
  refine ev_pos (by omega) (ev_pos (by omega) (ev_pos (by omega) ?_))
  exact winnerS_l0 n xs cs last hn hc R hR r (i + 2) (acc ++ [a]) h3 (by omega) (by first | (simp; done) | (simp; omega)) (by rw [← he]; simp [evens])
theorem winner_both (n : Int) (xs : List (List Int)) (cs : List Int) (hn : xs.length ≤ 1048576) (hc : cs.length ≤ 1048576) : ∃ b, Ev (fun k => spec_WinnerOf.f k n xs cs) b ∧ Ev (fun k => impl_WinnerOf.f k n xs cs) b := by
 obtain ⟨b, hb, hb2, hlen⟩ := isLine_both n xs cs hn hc
 unfold spec_WinnerOf.f impl_WinnerOf.f
 have hel : (evens cs).length ≤ 9223372036854775807 := by rw [evens_length]; omega
 cases b with
 | false => exact ⟨_, Ev.bind hb (ev_neg (by decide) (Ev.now _)), Ev.bind hb2 (ev_neg (by decide) (Ev.now _))⟩
 | true =>
  have hl := hlen rfl
  have hw : wrap64 ((cs.length : Int) - 1) = (cs.length : Int) - 1 := wrap_id (by omega) (by omega)
  rw [hw]
  by_cases hodd : (cs.length : Int) % 2 = 1
  ·by_cases ha : ((attackers n xs (rd cs ((cs.length : Int) - 1))).length : Int) = 0
   ·refine ⟨_, Ev.bind hb (ev_pos rfl (ev_pos (by omega) (ev_pos (by omega) (ev_pos hodd (Ev.bind (attackers_spec n xs _ hn) (ev_pos ha (Ev.now _))))))), Ev.bind hb2 (ev_pos rfl (ev_pos (by omega) (ev_pos (by omega) (ev_pos hodd (Ev.bind (attackers_impl n xs _ hn) (Ev.step (fun k => by rw [impl_WinnerOf.j0]) (ev_pos (by rw [beq_iff_eq]; exact ha) (Ev.now _))))))))⟩
   ·refine ⟨_, Ev.bind hb (ev_pos rfl (ev_pos (by omega) (ev_pos (by omega) (ev_pos hodd (Ev.bind (attackers_spec n xs _ hn) (ev_neg ha (Ev.now _))))))), Ev.bind hb2 (ev_pos rfl (ev_pos (by omega) (ev_pos (by omega) (ev_pos hodd (Ev.bind (attackers_impl n xs _ hn) (Ev.step (fun k => by rw [impl_WinnerOf.j0]) (ev_neg (by rw [beq_iff_eq]; exact ha) (ev_neg (by omega) (Ev.now _)))))))))⟩
  ·have hgo : ∀ R, Ev (fun k => (spec_AnswersTo.f k n xs (evens cs) (rd cs ((cs.length : Int) - 1))).bind fun t => if (t.length : Int) = 0 then some (⟨#[115, 101, 99, 111, 110, 100]⟩ : ByteArray) else some (⟨#[110, 111, 110, 101]⟩ : ByteArray)) R → Ev (fun k => (impl_AnswersTo.f k n xs (evens cs) (rd cs ((cs.length : Int) - 1))).bind fun t => if (t.length : Int) = 0 then some (⟨#[115, 101, 99, 111, 110, 100]⟩ : ByteArray) else some (⟨#[110, 111, 110, 101]⟩ : ByteArray)) R → ∃ b, Ev (fun k => (spec_IsLine.f k n xs cs).bind fun t188 => (if t188 = true then (if 0 ≤ (cs.length : Int) - 1 then (if (cs.length : Int) - 1 < (cs.length : Int) then (if ((cs.length : Int) % 2) = 1 then ((spec_AttackersOf.f k n xs (rd cs ((cs.length : Int) - 1))).bind fun t190 => (if (t190.length : Int) = 0 then (some (⟨#[102, 105, 114, 115, 116]⟩ : ByteArray)) else (some (⟨#[110, 111, 110, 101]⟩ : ByteArray)))) else (spec_WinnerOf.l0 k cs (rd cs ((cs.length : Int) - 1)) (([] : List Int)) 0 n xs)) else (none)) else (none)) else (some (⟨#[]⟩ : ByteArray)))) b ∧ Ev (fun k => (impl_IsLine.f k n xs cs).bind fun t284 => (if t284 = true then (if 0 ≤ (cs.length : Int) - 1 then (if (cs.length : Int) - 1 < (cs.length : Int) then (if ((cs.length : Int) % 2) = 1 then ((impl_AttackersOf.f k n xs (rd cs ((cs.length : Int) - 1))).bind fun t286 => (impl_WinnerOf.j0 k cs (rd cs ((cs.length : Int) - 1)) ((t286.length : Int) == 0) n xs)) else (impl_WinnerOf.j0 k cs (rd cs ((cs.length : Int) - 1)) false n xs)) else (none)) else (none)) else (some (⟨#[]⟩ : ByteArray)))) b := by
    intro R hR1 hR2
    refine ⟨R, Ev.bind hb (ev_pos rfl (ev_pos (by omega) (ev_pos (by omega) (ev_neg hodd (winnerS_l0 n xs cs _ hn hc R hR1 cs 0 [] rfl (by omega) (by simp) rfl))))), Ev.bind hb2 (ev_pos rfl (ev_pos (by omega) (ev_pos (by omega) (ev_neg hodd (Ev.step (fun k => by rw [impl_WinnerOf.j0]) (ev_neg (by decide) (ev_pos (by omega) (Ev.bind (evens_ev cs hc) hR2))))))))⟩
   by_cases ha : ((answers n xs (evens cs) (rd cs ((cs.length : Int) - 1))).length : Int) = 0
   ·exact hgo _ (Ev.bind (answers_spec n xs _ _ hn hel) (ev_pos ha (Ev.now _))) (Ev.bind (answers_impl n xs _ _ hn hel) (ev_pos ha (Ev.now _)))
   ·exact hgo _ (Ev.bind (answers_spec n xs _ _ hn hel) (ev_neg ha (Ev.now _))) (Ev.bind (answers_impl n xs _ _ hn hel) (ev_neg ha (Ev.now _)))

theorem FnExactWinnerOf (a0_0 : Int) (g0_0 : (Lit.int .i64 a0_0).wf = true) (l0_1 : List (List (Int))) (g0_1 : l0_1.length ≤ 9223372036854775807 ∧ ∀ y ∈ l0_1, y.length ≤ 9223372036854775807 ∧ ∀ z ∈ y, (Lit.int .i64 z).wf = true) (l1 : List Int) (g1 : l1.length ≤ 9223372036854775807 ∧ ∀ y ∈ l1, (Lit.int .i64 y).wf = true) : ∃ k, laws_FnExactWinnerOf.f k a0_0 l0_1 l1 = some true := by
 refine Ev.rounds (g := fun k => laws_FnExactWinnerOf.f k a0_0 l0_1 l1) ?_
 unfold laws_FnExactWinnerOf.f
 refine ev_ite (fun _ => Ev.now _) (fun hm => ?_)
 obtain ⟨r, hr, hok⟩ := szGraph_ev a0_0 l0_1 g0_1.1 (fun y hy => (g0_1.2 y hy).1)
 refine Ev.bind hr (ev_ite (fun _ => Ev.now _) (fun h0 => ?_))
 obtain ⟨hn, hi⟩ := hok h0
 obtain ⟨b, hs, hp⟩ := winner_both a0_0 l0_1 l1 hn (by omega)
 refine Ev.bind (toGraph_ev _ _ hn hi) (Ev.bind (toIntS_ev l1 (by omega)) ?_)
 dsimp only
 refine Ev.bind hs (Ev.bind (toGraph_ev _ _ hn hi) (Ev.bind (toIntS_ev l1 (by omega)) ?_))
 dsimp only
 refine Ev.bind hp (ev_pos rfl (Ev.bind (toGraph_ev _ _ hn hi) ?_))
 dsimp only
 exact Ev.bind (eqGraph_same _ _ hn hi) (ev_pos rfl (Ev.bind (toIntS_ev l1 (by omega)) (Ev.bind (eqIntS_same _ (by omega)) (ev_pos rfl (Ev.now _)))))

end Go.Proofs.Ytkmhkkhlbnhaaaa.Pure
