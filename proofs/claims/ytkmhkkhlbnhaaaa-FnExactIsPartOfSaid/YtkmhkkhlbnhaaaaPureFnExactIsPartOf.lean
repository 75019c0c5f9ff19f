/- The plain statement of the law FnExactIsPartOf, for all numbers and lists. -/
import Derived.Test.YtkmhkkhlbnhaaaaPFnExactIsPartOfx0
import Derived.Test.YtkmhkkhlbnhaaaaPFnExactIsPartOfx1
import Derived.Test.YtkmhkkhlbnhaaaaPFnExactIsPartOfx2
import Derived.Test.YtkmhkkhlbnhaaaaPFnExactIsPartOfx3
import Derived.Test.YtkmhkkhlbnhaaaaPFnExactIsPartOfx4
import Derived.Test.YtkmhkkhlbnhaaaaPFnExactIsPartOfx5
import Derived.Test.YtkmhkkhlbnhaaaaPFnExactIsPartOfx6
import Derived.Test.YtkmhkkhlbnhaaaaPFnExactIsPartOfx7
import Derived.Test.YtkmhkkhlbnhaaaaPFnExactIsPartOfx8
import Derived.Test.YtkmhkkhlbnhaaaaPFnExactIsPartOfx9
import Derived.Test.YtkmhkkhlbnhaaaaBase
set_option linter.unusedVariables false
set_option linter.unusedSimpArgs false
namespace Go.Proofs.Ytkmhkkhlbnhaaaa.Pure
open Go.RowKit Go.Proofs.Ytkmhkkhlbnhaaaa.PFnExactIsPartOf Go.Proofs.YtkmhkkhlbnhaaaaW.PrintWords Go.Proofs.YtkmhkkhlbnhaaaaW.PrintLast Go.Proofs.YtkmhkkhlbnhaaaaW.PrintMore Go.Proofs.Ytkmhkkhlbnhaaaa.Base
theorem toIntS_l0 (xs : List Int) (hn : xs.length ≤ 35184372088832) : ∀ (zs : List Int) (i : Nat) (ys : List Int), xs.drop i = zs → ys.length = xs.length → ys.take i = xs.take i → Ev (fun k => laws_toIntS.l0 k xs ys (i : Int)) xs := by
 intro zs
 induction zs with
 | nil =>
  intro i ys h hl ht
  have := at_end h
  refine Ev.step (fun k => by rw [laws_toIntS.l0]) (ev_neg (by omega) ?_)
  rw [List.take_of_length_le (by omega), List.take_of_length_le (by omega)] at ht
  rw [ht]
  exact Ev.now _
 | cons z zs ih =>
  intro i ys h hl ht
  obtain ⟨hi, hz, h', _⟩ := at_drop h
  refine Ev.step (fun k => by rw [laws_toIntS.l0]) (ev_pos (by omega) (ev_pos (by omega) (ev_pos (by omega) ?_)))
  rw [wrap_id (by omega) (by omega), Int.toNat_natCast, rd_get hz]
  exact ih (i + 1) _ h' (by simp [hl]) (by rw [take_set_at (by omega), take_at hz, ht])
theorem toIntS_ev (xs : List Int) (hn : xs.length ≤ 35184372088832) : Ev (fun k => laws_toIntS.f k xs) xs := by
 unfold laws_toIntS.f
 exact ev_pos (by omega) (ev_pos (by omega) (toIntS_l0 xs hn xs 0 _ rfl (by simp) (by simp)))
theorem eqIntS_l0 (xs ys : List Int) (hl : xs.length = ys.length) (hn : xs.length ≤ 9223372036854775807) : ∀ (zs us : List Int) (i : Nat), xs.drop i = zs → ys.drop i = us → Ev (fun k => laws_eqIntS.l0 k xs ys (i : Int)) (decide (zs = us)) := by
 intro zs
 induction zs with
 | nil =>
  intro us i h hu
  have := at_end h
  refine Ev.step (fun k => by rw [laws_eqIntS.l0]) (ev_neg (by omega) ?_)
  rw [List.drop_of_length_le (by omega)] at hu
  subst hu
  exact ev_eq (Ev.now _) (by simp)
 | cons z zs ih =>
  intro us i h hu
  obtain ⟨hi, hz, h', _⟩ := at_drop h
  cases us with
  | nil => have := at_end hu; omega
  | cons u us =>
   obtain ⟨_, hzu, hu', _⟩ := at_drop hu
   refine Ev.step (fun k => by rw [laws_eqIntS.l0]) (ev_pos (by omega) (ev_pos (by omega) (ev_pos (by omega) ?_)))
   rw [wrap_id (by omega) (by omega), rd_get hz, rd_get hzu]
   refine ev_ite (fun e => ev_eq (ih us (i + 1) h' hu') (by simp [e])) (fun e => ev_eq (Ev.now _) (by simp [e]))
theorem eqIntS_ev (xs ys : List Int) (hn : xs.length ≤ 9223372036854775807) : Ev (fun k => laws_eqIntS.f k xs ys) (decide (xs = ys)) := by
 unfold laws_eqIntS.f
 refine ev_ite (fun e => eqIntS_l0 xs ys (by omega) hn xs ys 0 rfl rfl) (fun e => ev_eq (Ev.now _) ?_)
 have : xs ≠ ys := by rintro rfl; exact e rfl
 simp [this]
theorem eqIntS_same (xs : List Int) (hn : xs.length ≤ 9223372036854775807) : Ev (fun k => laws_eqIntS.f k xs xs) true := ev_eq (eqIntS_ev xs xs hn) (by simp)
theorem l1In_eq (x a b : Int) : spec_l1In.f x a b = some (decide (a ≤ x ∧ x ≤ b)) := by
 unfold spec_l1In.f
 by_cases h : a ≤ x <;> simp [h]
theorem inRange_eq (x a b : Int) : impl_InRange.f x a b = some (decide (a ≤ x ∧ x ≤ b)) := by
 unfold impl_InRange.f
 by_cases h : a ≤ x <;> simp [h]

theorem toIntSS_l0 (xs : List (List Int)) (hn : xs.length ≤ 11728124029610) (hi : ∀ y ∈ xs, y.length ≤ 35184372088832) : ∀ (zs : List (List Int)) (i : Nat) (ys : List (List Int)), xs.drop i = zs → ys.length = xs.length → ys.take i = xs.take i → Ev (fun k => laws_toIntSS.l0 k xs ys (i : Int)) xs := by
 intro zs
 induction zs with
 | nil =>
  intro i ys h hl ht
  have := at_end h
  refine Ev.step (fun k => by rw [laws_toIntSS.l0]) ?_
  refine ev_neg (by omega) ?_
  rw [List.take_of_length_le (by omega), List.take_of_length_le (by omega)] at ht
  rw [ht]
  exact Ev.now _
 | cons z zs ih =>
  intro i ys h hl ht
  obtain ⟨hlt, hz, h2, _⟩ := at_drop h
  have hr : rd_L1 xs (i : Int) = z := getD_at hz
  have hm : z ∈ xs := List.mem_of_getElem? hz
  refine Ev.step (fun k => by rw [laws_toIntSS.l0]) ?_
  refine ev_pos (by omega) (ev_pos (by omega) ?_)
  rw [hr]
  refine Ev.bind (toIntS_ev z (hi z hm)) (ev_pos (by omega) ?_)
  rw [wrap_id (by omega) (by omega), Int.toNat_natCast]
  exact ih (i + 1) _ h2 (by simp [hl]) (by rw [take_set_at (by omega), take_at hz, ht])
theorem toIntSS_ev (xs : List (List Int)) (hn : xs.length ≤ 11728124029610) (hi : ∀ y ∈ xs, y.length ≤ 35184372088832) : Ev (fun k => laws_toIntSS.f k xs) xs := by
 unfold laws_toIntSS.f
 exact ev_pos (by omega) (ev_pos (by omega) (toIntSS_l0 xs hn hi xs 0 _ rfl (by simp) (by simp)))
theorem eqIntSS_l0 (xs ys : List (List Int)) (hl : xs.length = ys.length) (hn : xs.length ≤ 9223372036854775807) (hi : ∀ y ∈ xs, y.length ≤ 9223372036854775807) : ∀ (zs us : List (List Int)) (i : Nat), xs.drop i = zs → ys.drop i = us → Ev (fun k => laws_eqIntSS.l0 k xs ys (i : Int)) (decide (zs = us)) := by
 intro zs
 induction zs with
 | nil =>
  intro us i h hu
  have := at_end h
  refine Ev.step (fun k => by rw [laws_eqIntSS.l0]) ?_
  rw [List.drop_of_length_le (by omega)] at hu
  subst hu
  exact ev_neg (by omega) (ev_eq (Ev.now _) (by simp))
 | cons z zs ih =>
  intro us i h hu
  obtain ⟨hlt, hz, h2, _⟩ := at_drop h
  cases us with
  | nil => have := at_end hu; omega
  | cons u us =>
   obtain ⟨_, hzu, hu2, _⟩ := at_drop hu
   have hr : rd_L1 xs (i : Int) = z := getD_at hz
   have hr2 : rd_L1 ys (i : Int) = u := getD_at hzu
   refine Ev.step (fun k => by rw [laws_eqIntSS.l0]) ?_
   refine ev_pos (by omega) (ev_pos (by omega) (ev_pos (by omega) ?_))
   rw [wrap_id (by omega) (by omega), hr, hr2]
   refine Ev.bind (eqIntS_ev z u (hi z (List.mem_of_getElem? hz))) (ev_ite (fun e => ev_eq (ih us (i + 1) h2 hu2) ?_) (fun e => ev_eq (Ev.now _) ?_))
   ·simp only [decide_eq_true_eq] at e
    simp [e]
   ·simp only [decide_eq_true_eq] at e
    simp [e]
theorem eqIntSS_ev (xs ys : List (List Int)) (hn : xs.length ≤ 9223372036854775807) (hi : ∀ y ∈ xs, y.length ≤ 9223372036854775807) : Ev (fun k => laws_eqIntSS.f k xs ys) (decide (xs = ys)) := by
 unfold laws_eqIntSS.f
 refine ev_ite (fun e => eqIntSS_l0 xs ys (by omega) hn hi xs ys 0 rfl rfl) (fun e => ev_eq (Ev.now _) ?_)
 have : xs ≠ ys := by rintro rfl; exact e rfl
 simp [this]
theorem eqIntSS_same (xs : List (List Int)) (hn : xs.length ≤ 9223372036854775807) (hi : ∀ y ∈ xs, y.length ≤ 9223372036854775807) : Ev (fun k => laws_eqIntSS.f k xs xs) true := ev_eq (eqIntSS_ev xs xs hn hi) (by simp)
theorem szIntS_eq (xs : List Int) (n : Int) (h0 : -9223372036854775808 + xs.length ≤ n) (h1 : n ≤ 9223372036854775807) : laws_szIntS.f xs n = some (if n - xs.length < 0 then -1 else n - xs.length) := by
 unfold laws_szIntS.f
 rw [wrap_id (by omega) (by omega)]
 split <;> rfl
theorem szIntSS_l0 (xs : List (List Int)) (hn : xs.length ≤ 9223372036854775807) (hi : ∀ y ∈ xs, y.length ≤ 9223372036854775807) : ∀ (zs : List (List Int)) (i : Nat) (n : Int), xs.drop i = zs → 0 ≤ n → n ≤ 1048576 → ∃ r, Ev (fun k => laws_szIntSS.l0 k xs n (i : Int)) r ∧ (¬ r < 0 → ∀ y ∈ zs, y.length ≤ 1048576) := by
 intro zs
 induction zs with
 | nil =>
  intro i n h _ _
  have := at_end h
  refine ⟨n, Ev.step (fun k => by rw [laws_szIntSS.l0]) ?_, by simp⟩
  exact ev_neg (by omega) (Ev.now _)
 | cons z zs ih =>
  intro i n h h0 h1
  obtain ⟨hlt, hz, h2, _⟩ := at_drop h
  have hr : rd_L1 xs (i : Int) = z := getD_at hz
  have hm := hi z (List.mem_of_getElem? hz)
  by_cases hs : n - (z.length : Int) < 0
  ·refine ⟨-1, Ev.step (fun k => by rw [laws_szIntSS.l0]) ?_, by omega⟩
   refine ev_pos (by omega) (ev_pos (by omega) ?_)
   rw [hr]
   refine ev_bind0 (szIntS_eq z n (by omega) (by omega)) ?_
   rw [if_pos hs]
   exact ev_pos (by omega) (Ev.now _)
  ·obtain ⟨r, hev, hall⟩ := ih (i + 1) (n - z.length) h2 (by omega) (by omega)
   refine ⟨r, Ev.step (fun k => by rw [laws_szIntSS.l0]) ?_, fun hr0 y hy => ?_⟩
   ·refine ev_pos (by omega) (ev_pos (by omega) ?_)
    rw [hr]
    refine ev_bind0 (szIntS_eq z n (by omega) (by omega)) ?_
    rw [if_neg hs, wrap_id (by omega) (by omega)]
    exact ev_neg (by omega) hev
   ·rcases List.mem_cons.1 hy with rfl | hy
    ·omega
    ·exact hall hr0 y hy
theorem szIntSS_ev (xs : List (List Int)) (hn : xs.length ≤ 9223372036854775807) (hi : ∀ y ∈ xs, y.length ≤ 9223372036854775807) : ∃ r, Ev (fun k => laws_szIntSS.f k xs 1048576) r ∧ (¬ r < 0 → xs.length ≤ 1048576 ∧ ∀ y ∈ xs, y.length ≤ 1048576) := by
 unfold laws_szIntSS.f
 by_cases hs : (1048576 : Int) - xs.length < 0
 ·refine ⟨-1, ?_, by omega⟩
  rw [wrap_id (by omega) (by omega)]
  exact ev_pos hs (Ev.now _)
 ·obtain ⟨r, hev, hall⟩ := szIntSS_l0 xs hn hi xs 0 (1048576 - xs.length) rfl (by omega) (by omega)
  refine ⟨r, ?_, fun h => ⟨by omega, hall h⟩⟩
  rw [wrap_id (by omega) (by omega)]
  exact ev_neg hs hev

theorem szGraph_ev (n : Int) (xs : List (List Int)) (hn : xs.length ≤ 9223372036854775807) (hi : ∀ y ∈ xs, y.length ≤ 9223372036854775807) : ∃ r, Ev (fun k => laws_szGraph.f k n xs 1048576) r ∧ (¬ r < 0 → xs.length ≤ 1048576 ∧ ∀ y ∈ xs, y.length ≤ 1048576) := by
 obtain ⟨r, hr, hok⟩ := szIntSS_ev xs hn hi
 unfold laws_szGraph.f
 by_cases h : r < 0
 ·exact ⟨-1, Ev.bind hr (ev_pos h (Ev.now _)), by omega⟩
 ·exact ⟨r, Ev.bind hr (ev_neg h (Ev.now _)), hok⟩
theorem toGraph_ev (n : Int) (xs : List (List Int)) (hn : xs.length ≤ 1048576) (hi : ∀ y ∈ xs, y.length ≤ 1048576) : Ev (fun k => laws_toGraph.f k n xs) (n, xs) := by
 unfold laws_toGraph.f
 exact Ev.bind (toIntSS_ev xs (by omega) (fun y hy => Nat.le_trans (hi y hy) (by decide))) (Ev.now _)
theorem eqGraph_same (n : Int) (xs : List (List Int)) (hn : xs.length ≤ 1048576) (hi : ∀ y ∈ xs, y.length ≤ 1048576) : Ev (fun k => laws_eqGraph.f k n xs n xs) true := by
 unfold laws_eqGraph.f
 exact ev_pos rfl (Ev.bind (eqIntSS_same xs (by omega) (fun y hy => Nat.le_trans (hi y hy) (by decide))) (ev_pos rfl (Ev.now _)))
def rowOk (h : Int) (r : List Int) : Bool := decide (r.length = 2 ∧ 0 ≤ rd r 0 ∧ rd r 0 ≤ h ∧ 0 ≤ rd r 1 ∧ rd r 1 ≤ h)
def lexLt (p r : List Int) : Bool := decide (rd p 0 < rd r 0 ∨ rd p 0 = rd r 0 ∧ rd p 1 < rd r 1)
def rowsOk (h : Int) : Option (List Int) → List (List Int) → Bool
 | _, [] => true
 | p, r :: rs => rowOk h r && ((match p with | none => true | some q => lexLt q r) && rowsOk h (some r) rs)
def isGraph (n : Int) (rs : List (List Int)) : Bool := decide (0 ≤ n ∧ n ≤ 10) && rowsOk (wrap64 (n - 1)) none rs
theorem isGraph_spec_l0 (n : Int) (xs : List (List Int)) (hn : xs.length ≤ 1048576) : ∀ (zs : List (List Int)) (i : Nat) (p : Option (List Int)), xs.drop i = zs → (i = 0 ∧ p = none ∨ ∃ q, p = some q ∧ 0 < i ∧ xs[i - 1]? = some q ∧ q.length = 2) → Ev (fun k => spec_IsGraph.l0 k (i : Int) n xs) (rowsOk (wrap64 (n - 1)) p zs && decide (0 ≤ n ∧ n ≤ 10)) := by
 intro zs
 induction zs with
 | nil =>
  intro i p h _
  have := at_end h
  refine Ev.step (fun k => by rw [spec_IsGraph.l0]) ?_
  refine ev_neg (by omega) (ev_bind0 (l1In_eq _ _ _) (ev_eq (Ev.now _) ?_))
  simp [rowsOk]
 | cons z zs ih =>
  intro i p h hp
  obtain ⟨hlt, hz, h2, _⟩ := at_drop h
  have hr : rd_L1 xs (i : Int) = z := getD_at hz
  refine Ev.step (fun k => by rw [spec_IsGraph.l0]) ?_
  refine ev_pos (by omega) (ev_pos (by omega) ?_)
  rw [hr]
  have bad : rowOk (wrap64 (n - 1)) z = false → Ev (fun k => spec_IsGraph.j1 k (i : Int) z true n xs) (rowsOk (wrap64 (n - 1)) p (z :: zs) && decide (0 ≤ n ∧ n ≤ 10)) := by
   intro hb
   refine Ev.step (fun k => by rw [spec_IsGraph.j1]) (ev_pos rfl (ev_eq (Ev.now _) ?_))
   simp [rowsOk, hb]
  refine ev_ite (fun e1 => ev_pos (by omega) (ev_bind0 (l1In_eq _ _ _) (ev_ite (fun e2 => ev_pos (by omega) (ev_bind0 (l1In_eq _ _ _) ?_)) (fun e2 => bad ?_)))) (fun e1 => bad ?_)
  ·have e2 := of_decide_eq_true e2
   by_cases e3 : 0 ≤ rd z 1 ∧ rd z 1 ≤ wrap64 (n - 1)
   ·have hok : rowOk (wrap64 (n - 1)) z = true := decide_eq_true ⟨by omega, e2.1, e2.2, e3.1, e3.2⟩
    have hl2 : z.length = 2 := by omega
    have ih2 := ih (i + 1) (some z) h2 (.inr ⟨z, rfl, by omega, hz, hl2⟩)
    rw [decide_eq_true e3]
    refine Ev.step (fun k => by rw [spec_IsGraph.j1]) (ev_neg (by decide) ?_)
    rw [wrap_id (x := (i : Int) + 1) (by omega) (by omega)]
    rcases hp with ⟨hi0, rfl⟩ | ⟨q, rfl, hi0, hq, hq2⟩
    ·refine ev_neg (by omega) (ev_eq ih2 ?_)
     simp [rowsOk, hok]
    ·have hr2 : rd_L1 xs ((i : Int) - 1) = q := by
      rw [show (i : Int) - 1 = ((i - 1 : Nat) : Int) by omega]
      exact getD_at hq
     rw [wrap_id (x := (i : Int) - 1) (by omega) (by omega), hr2]
     refine ev_pos (by omega) (ev_pos (by omega) (ev_pos (by omega) (ev_pos (by omega) (ev_pos (by omega) ?_))))
     refine ev_ite (fun e4 => ev_eq (Ev.now _) ?_) (fun e4 => ev_ite (fun e5 => ev_pos (by omega) (ev_pos (by omega) (ev_ite (fun e6 => ev_eq (Ev.now _) ?_) (fun e6 => ev_eq ih2 ?_)))) (fun e5 => ev_eq ih2 ?_))
     ·have : lexLt q z = false := decide_eq_false (by omega)
      simp [rowsOk, this]
     ·have : lexLt q z = false := decide_eq_false (by omega)
      simp [rowsOk, this]
     ·have : lexLt q z = true := decide_eq_true (by omega)
      simp [rowsOk, this, hok]
     ·have : lexLt q z = true := decide_eq_true (by omega)
      simp [rowsOk, this, hok]
   ·rw [decide_eq_false e3]
    exact bad (decide_eq_false (by rintro ⟨_, _, _, h4, h5⟩; exact e3 ⟨h4, h5⟩))
  ·have e2 : ¬ _ := fun h => e2 (decide_eq_true h)
   exact decide_eq_false (by rintro ⟨_, h2, h3, _⟩; exact e2 ⟨h2, h3⟩)
  ·exact decide_eq_false (by rintro ⟨h1, _⟩; omega)
theorem isGraph_spec (n : Int) (xs : List (List Int)) (hn : xs.length ≤ 1048576) : Ev (fun k => spec_IsGraph.f k n xs) (isGraph n xs) := by
 unfold spec_IsGraph.f
 refine ev_eq (isGraph_spec_l0 n xs hn xs 0 none rfl (.inl ⟨rfl, rfl⟩)) ?_
 unfold isGraph
 exact Bool.and_comm _ _
theorem isGraph_n {n : Int} {xs : List (List Int)} (h : isGraph n xs = true) : 0 ≤ n ∧ n ≤ 10 := by
 unfold isGraph at h
 exact of_decide_eq_true (Bool.and_eq_true_iff.1 h).1
theorem rowsOk_mem {h : Int} : ∀ (rs : List (List Int)) (p : Option (List Int)), rowsOk h p rs = true → ∀ r ∈ rs, rowOk h r = true := by
 intro rs
 induction rs with
 | nil => intro p _ r hr; exact absurd hr (by simp)
 | cons a rs ih =>
  intro p hp r hr
  unfold rowsOk at hp
  simp only [Bool.and_eq_true] at hp
  rcases List.mem_cons.1 hr with rfl | hr
  ·exact hp.1
  ·exact ih (some a) hp.2.2 r hr
theorem isGraph_row {n : Int} {xs : List (List Int)} (h : isGraph n xs = true) {r : List Int} (hr : r ∈ xs) : r.length = 2 ∧ 0 ≤ rd r 0 ∧ rd r 0 ≤ n - 1 ∧ 0 ≤ rd r 1 ∧ rd r 1 ≤ n - 1 := by
 have hn := isGraph_n h
 unfold isGraph at h
 have := of_decide_eq_true (rowsOk_mem xs none (Bool.and_eq_true_iff.1 h).2 r hr)
 rw [wrap_id (by omega) (by omega)] at this
 exact this
theorem compare2 (a b c d : Int) : Ev (fun k => slices_Compare_int_int.f k [a, b] [c, d]) (if a < c then -1 else if a > c then 1 else if b < d then -1 else if b > d then 1 else 0) := by
 have hc : ∀ x y : Int, cmp_Compare_int.f x y = some (if x < y then -1 else if x > y then 1 else 0) := by
  intro x y
  unfold cmp_Compare_int.f cmp_isNaN_int.f
  simp only [bne_self_eq_false, Option.bind_some, Bool.false_eq_true, if_false]
  split
  ·rfl
  ·split <;> rfl
 have hl : ∀ x y : Int, (([x, y] : List Int).length : Int) = 2 := fun _ _ => rfl
 unfold slices_Compare_int_int.f
 refine Ev.step (fun k => by rw [slices_Compare_int_int.l0]) ?_
 rw [hl, hl]
 refine ev_pos (by omega) (ev_pos (by omega) (ev_pos (by omega) (ev_neg (by omega) (ev_pos (by omega) (ev_bind0 (hc _ _) ?_)))))
 rw [show rd [a, b] 0 = a from rfl, show rd [c, d] 0 = c from rfl]
 by_cases h1 : a < c
 ·rw [if_pos h1, if_pos h1]
  exact ev_neg (by omega) (Ev.now _)
 ·rw [if_neg h1, if_neg h1]
  by_cases h2 : a > c
  ·rw [if_pos h2, if_pos h2]
   exact ev_neg (by omega) (Ev.now _)
  ·rw [if_neg h2, if_neg h2]
   refine ev_pos rfl ?_
   rw [wrap_id (x := 0 + 1) (by omega) (by omega)]
   refine Ev.step (fun k => by rw [slices_Compare_int_int.l0]) ?_
   rw [hl, hl]
   refine ev_pos (by omega) (ev_pos (by omega) (ev_pos (by omega) (ev_neg (by omega) (ev_pos (by omega) (ev_bind0 (hc _ _) ?_)))))
   rw [show rd [a, b] (0 + 1) = b from rfl, show rd [c, d] (0 + 1) = d from rfl]
   by_cases h3 : b < d
   ·rw [if_pos h3]
    exact ev_neg (by omega) (Ev.now _)
   ·rw [if_neg h3]
    by_cases h4 : b > d
    ·rw [if_pos h4]
     exact ev_neg (by omega) (Ev.now _)
    ·rw [if_neg h4]
     refine ev_pos rfl ?_
     rw [wrap_id (x := 0 + 1 + 1) (by omega) (by omega)]
     refine Ev.step (fun k => by rw [slices_Compare_int_int.l0]) ?_
     rw [hl, hl]
     exact ev_neg (by omega) (ev_neg (by omega) (Ev.now _))
theorem two_of {r : List Int} (h : r.length = 2) : r = [rd r 0, rd r 1] := by
 match r, h with
 | [a, b], _ => rfl
theorem compare_rows (q z : List Int) (hq : q.length = 2) (hz : z.length = 2) : ∃ c : Int, Ev (fun k => slices_Compare_int_int.f k q z) c ∧ (c ≥ 0 ↔ lexLt q z = false) := by
 refine ⟨_, by rw [two_of hq, two_of hz]; exact compare2 _ _ _ _, ?_⟩
 unfold lexLt
 rw [decide_eq_false_iff_not]
 generalize rd q 0 = a
 generalize rd q 1 = b
 generalize rd z 0 = c
 generalize rd z 1 = d
 split
 ·omega
 ·split
  ·omega
  ·split
   ·omega
   ·split <;> omega
theorem isClaim_eq (n : Int) (xs : List (List Int)) (a : Int) : impl_isClaim.f n xs a = some (decide (0 ≤ a ∧ a ≤ wrap64 (n - 1))) := by
 unfold impl_isClaim.f
 rw [inRange_eq]
 rfl
theorem isGraph_impl_l0 (n : Int) (xs : List (List Int)) (hn : xs.length ≤ 1048576) : ∀ (zs : List (List Int)) (i : Nat) (p : Option (List Int)), xs.drop i = zs → (i = 0 ∧ p = none ∨ ∃ q, p = some q ∧ 0 < i ∧ xs[i - 1]? = some q ∧ q.length = 2) → Ev (fun k => impl_IsGraph.l0 k xs xs.length (i : Int) n xs) (rowsOk (wrap64 (n - 1)) p zs) := by
 intro zs
 induction zs with
 | nil =>
  intro i p h _
  have := at_end h
  refine Ev.step (fun k => by rw [impl_IsGraph.l0]) ?_
  exact ev_neg (by omega) (Ev.now _)
 | cons z zs ih =>
  intro i p h hp
  obtain ⟨hlt, hz, h2, _⟩ := at_drop h
  have hr : rd_L1 xs (i : Int) = z := getD_at hz
  refine Ev.step (fun k => by rw [impl_IsGraph.l0]) ?_
  refine ev_pos (by omega) (ev_pos (by omega) (ev_pos (by omega) ?_))
  rw [hr]
  have bad : rowOk (wrap64 (n - 1)) z = false → false = rowsOk (wrap64 (n - 1)) p (z :: zs) := by
   intro hb
   simp [rowsOk, hb]
  refine ev_ite (fun e1 => ev_pos (by omega) (ev_bind0 (isClaim_eq _ _ _) (ev_ite (fun e2 => ev_pos (by omega) (ev_bind0 (isClaim_eq _ _ _) (ev_ite (fun e3 => ?_) (fun e3 => ev_eq (Ev.now _) (bad ?_))))) (fun e2 => ev_eq (Ev.now _) (bad ?_))))) (fun e1 => ev_eq (Ev.now _) (bad ?_))
  ·have e2 := of_decide_eq_true e2
   have e3 := of_decide_eq_true e3
   have hok : rowOk (wrap64 (n - 1)) z = true := decide_eq_true ⟨by omega, e2.1, e2.2, e3.1, e3.2⟩
   have hl2 : z.length = 2 := by omega
   have ih2 := ih (i + 1) (some z) h2 (.inr ⟨z, rfl, by omega, hz, hl2⟩)
   rw [wrap_id (x := (i : Int) + 1) (by omega) (by omega)]
   rcases hp with ⟨hi0, rfl⟩ | ⟨q, rfl, hi0, hq, hq2⟩
   ·refine ev_neg (by omega) (ev_eq ih2 ?_)
    simp [rowsOk, hok]
   ·have hr2 : rd_L1 xs ((i : Int) - 1) = q := by
     rw [show (i : Int) - 1 = ((i - 1 : Nat) : Int) by omega]
     exact getD_at hq
    rw [wrap_id (x := (i : Int) - 1) (by omega) (by omega), hr2]
    obtain ⟨c, hc, hc2⟩ := compare_rows q z hq2 hl2
    refine ev_pos (by omega) (ev_pos (by omega) (ev_pos (by omega) (Ev.bind hc (ev_ite (fun e4 => ev_eq (Ev.now _) ?_) (fun e4 => ev_eq ih2 ?_)))))
    ·have := hc2.1 e4
     simp [rowsOk, this]
    ·have : lexLt q z = true := by
      cases hl : lexLt q z with
      | true => rfl
      | false => exact absurd (hc2.2 hl) e4
     simp [rowsOk, this, hok]
  ·have e3 : ¬ _ := fun h => e3 (decide_eq_true h)
   exact decide_eq_false (by rintro ⟨_, _, _, h4, h5⟩; exact e3 ⟨h4, h5⟩)
  ·have e2 : ¬ _ := fun h => e2 (decide_eq_true h)
   exact decide_eq_false (by rintro ⟨_, h2, h3, _⟩; exact e2 ⟨h2, h3⟩)
  ·exact decide_eq_false (by rintro ⟨h1, _⟩; omega)
theorem isGraph_impl (n : Int) (xs : List (List Int)) (hn : xs.length ≤ 1048576) : Ev (fun k => impl_IsGraph.f k n xs) (isGraph n xs) := by
 unfold impl_IsGraph.f isGraph
 refine ev_bind0 (inRange_eq _ _ _) (ev_ite (fun e => ?_) (fun e => ev_eq (Ev.now _) ?_))
 ·rw [e, Bool.true_and]
  exact isGraph_impl_l0 n xs hn xs 0 none rfl (.inl ⟨rfl, rfl⟩)
 ·rw [show decide (0 ≤ n ∧ n ≤ 10) = false by simpa using e, Bool.false_and]
def victims (n : Int) (xs : List (List Int)) (a : Int) : List Int := if isGraph n xs then (xs.filter fun r => decide (rd r 0 = a)).map fun r => rd r 1 else []
def attackers (n : Int) (xs : List (List Int)) (a : Int) : List Int := if isGraph n xs then (xs.filter fun r => decide (rd r 1 = a)).map fun r => rd r 0 else []
def does (n : Int) (xs : List (List Int)) (a b : Int) : Bool := isGraph n xs && xs.any fun r => decide (rd r 0 = a ∧ rd r 1 = b)
theorem victims_length (n : Int) (xs : List (List Int)) (a : Int) : (victims n xs a).length ≤ xs.length := by
 unfold victims
 split
 ·rw [List.length_map]; exact List.length_filter_le _ _
 ·simp
theorem attackers_length (n : Int) (xs : List (List Int)) (a : Int) : (attackers n xs a).length ≤ xs.length := by
 unfold attackers
 split
 ·rw [List.length_map]; exact List.length_filter_le _ _
 ·simp
theorem victims_mem (n : Int) (xs : List (List Int)) (a b : Int) : decide (b ∈ victims n xs a) = does n xs a b := by
 rw [Bool.eq_iff_iff, decide_eq_true_eq]
 unfold victims does
 cases isGraph n xs with
 | false => simp
 | true =>
  rw [if_pos rfl, Bool.true_and, List.any_eq_true, List.mem_map]
  constructor
  ·rintro ⟨r, hr, rfl⟩
   rw [List.mem_filter] at hr
   exact ⟨r, hr.1, decide_eq_true ⟨of_decide_eq_true hr.2, rfl⟩⟩
  ·rintro ⟨r, hr, h⟩
   have h := of_decide_eq_true h
   exact ⟨r, List.mem_filter.2 ⟨hr, decide_eq_true h.1⟩, h.2⟩
theorem does_range {n : Int} {xs : List (List Int)} {a b : Int} (h : does n xs a b = true) : 0 ≤ a ∧ a ≤ n - 1 ∧ 0 ≤ b ∧ b ≤ n - 1 := by
 unfold does at h
 rw [Bool.and_eq_true, List.any_eq_true] at h
 obtain ⟨hg, r, hr, h2⟩ := h
 have h2 := of_decide_eq_true h2
 have := isGraph_row hg hr
 rw [h2.1, h2.2] at this
 exact ⟨this.2.1, this.2.2.1, this.2.2.2.1, this.2.2.2.2⟩
theorem doesAttack_l0 (n : Int) (xs : List (List Int)) (a b : Int) (hn : xs.length ≤ 1048576) : ∀ (zs : List (List Int)) (i : Nat), xs.drop i = zs → Ev (fun k => spec_DoesAttack.l0 k a b (i : Int) n xs) (isGraph n xs && zs.any fun r => decide (rd r 0 = a ∧ rd r 1 = b)) := by
 intro zs
 induction zs with
 | nil =>
  intro i h
  have := at_end h
  refine Ev.step (fun k => by rw [spec_DoesAttack.l0]) ?_
  refine ev_neg (by omega) (Ev.step (fun k => by rw [spec_DoesAttack.j1]) (ev_neg (by decide) (ev_eq (Ev.now _) ?_)))
  simp
 | cons z zs ih =>
  intro i h
  obtain ⟨hlt, hz, h2, _⟩ := at_drop h
  have hr : rd_L1 xs (i : Int) = z := getD_at hz
  refine Ev.step (fun k => by rw [spec_DoesAttack.l0]) ?_
  refine ev_pos (by omega) (Ev.bind (isGraph_spec n xs hn) (Ev.step (fun k => by rw [spec_DoesAttack.j1]) (ev_ite (fun e => ?_) (fun e => ev_eq (Ev.now _) ?_))))
  ·have hg := isGraph_row e (List.mem_of_getElem? hz)
   have ih2 := ih (i + 1) h2
   rw [hr, wrap_id (x := (i : Int) + 1) (by omega) (by omega)]
   rw [List.any_cons]
   refine ev_pos (by omega) (ev_pos (by omega) (ev_pos (by omega) (ev_ite (fun e2 => ev_pos (by omega) (ev_ite (fun e3 => ev_eq (Ev.now _) ?_) (fun e3 => ev_eq ih2 ?_))) (fun e2 => ev_eq ih2 ?_))))
   ·rw [e, decide_eq_true (⟨e2, e3⟩ : rd z 0 = a ∧ rd z 1 = b)]; rfl
   ·rw [decide_eq_false (fun h : rd z 0 = a ∧ rd z 1 = b => e3 h.2), Bool.false_or]
   ·rw [decide_eq_false (fun h : rd z 0 = a ∧ rd z 1 = b => e2 h.1), Bool.false_or]
  ·rw [show isGraph n xs = false by simpa using e, Bool.false_and]
theorem doesAttack_spec (n : Int) (xs : List (List Int)) (a b : Int) (hn : xs.length ≤ 1048576) : Ev (fun k => spec_DoesAttack.f k n xs a b) (does n xs a b) := by
 unfold spec_DoesAttack.f
 exact doesAttack_l0 n xs a b hn xs 0 rfl
theorem szIntSS_l0n (xs : List (List Int)) (hn : xs.length ≤ 9223372036854775807) (hi : ∀ y ∈ xs, y.length ≤ 9223372036854775807) : ∀ (zs : List (List Int)) (i : Nat) (n : Int), xs.drop i = zs → 0 ≤ n → n ≤ 1048576 → ∃ r, Ev (fun k => laws_szIntSS.l0 k xs n (i : Int)) r ∧ r ≤ n ∧ (¬ r < 0 → ∀ y ∈ zs, y.length ≤ 1048576) := by
 intro zs
 induction zs with
 | nil =>
  intro i n h _ _
  have := at_end h
  refine ⟨n, Ev.step (fun k => by rw [laws_szIntSS.l0]) ?_, Int.le_refl _, by simp⟩
  exact ev_neg (by omega) (Ev.now _)
 | cons z zs ih =>
  intro i n h h0 h1
  obtain ⟨hlt, hz, h2, _⟩ := at_drop h
  have hr : rd_L1 xs (i : Int) = z := getD_at hz
  have hm := hi z (List.mem_of_getElem? hz)
  by_cases hs : n - (z.length : Int) < 0
  ·refine ⟨-1, Ev.step (fun k => by rw [laws_szIntSS.l0]) ?_, by omega, by omega⟩
   refine ev_pos (by omega) (ev_pos (by omega) ?_)
   rw [hr]
   refine ev_bind0 (szIntS_eq z n (by omega) (by omega)) ?_
   rw [if_pos hs]
   exact ev_pos (by omega) (Ev.now _)
  ·obtain ⟨r, hev, hle, hall⟩ := ih (i + 1) (n - z.length) h2 (by omega) (by omega)
   refine ⟨r, Ev.step (fun k => by rw [laws_szIntSS.l0]) ?_, by omega, fun hr0 y hy => ?_⟩
   ·refine ev_pos (by omega) (ev_pos (by omega) ?_)
    rw [hr]
    refine ev_bind0 (szIntS_eq z n (by omega) (by omega)) ?_
    rw [if_neg hs, wrap_id (by omega) (by omega)]
    exact ev_neg (by omega) hev
   ·rcases List.mem_cons.1 hy with rfl | hy
    ·omega
    ·exact hall hr0 y hy
theorem szGraph_n (m : Int) (xs : List (List Int)) (hn : xs.length ≤ 9223372036854775807) (hi : ∀ y ∈ xs, y.length ≤ 9223372036854775807) (n : Int) (h0 : 0 ≤ n) (h1 : n ≤ 1048576) : ∃ r, Ev (fun k => laws_szGraph.f k m xs n) r ∧ r ≤ 1048576 ∧ (¬ r < 0 → xs.length ≤ 1048576 ∧ ∀ y ∈ xs, y.length ≤ 1048576) := by
 have hS : ∃ r, Ev (fun k => laws_szIntSS.f k xs n) r ∧ r ≤ 1048576 ∧ (¬ r < 0 → xs.length ≤ 1048576 ∧ ∀ y ∈ xs, y.length ≤ 1048576) := by
  unfold laws_szIntSS.f
  by_cases hs : n - xs.length < 0
  ·refine ⟨-1, ?_, by omega, by omega⟩
   rw [wrap_id (by omega) (by omega)]
   exact ev_pos hs (Ev.now _)
  ·obtain ⟨r, hev, hle, hall⟩ := szIntSS_l0n xs hn hi xs 0 (n - xs.length) rfl (by omega) (by omega)
   refine ⟨r, ?_, by omega, fun h => ⟨by omega, hall h⟩⟩
   rw [wrap_id (by omega) (by omega)]
   exact ev_neg hs hev
 obtain ⟨r, hr, hle, hok⟩ := hS
 unfold laws_szGraph.f
 by_cases h : r < 0
 ·exact ⟨-1, Ev.bind hr (ev_pos h (Ev.now _)), by omega, by omega⟩
 ·exact ⟨r, Ev.bind hr (ev_neg h (Ev.now _)), hle, hok⟩
theorem sorted_ext {α : Type} (R : α → α → Prop) (asym : ∀ a b, R a b → R b a → False) : ∀ xs ys : List α, xs.Pairwise R → ys.Pairwise R → (∀ r, r ∈ xs ↔ r ∈ ys) → xs = ys
 | [], [], _, _, _ => rfl
 | [], y :: ys, _, _, h => absurd ((h y).2 (by simp)) (by simp)
 | x :: xs, [], _, _, h => absurd ((h x).1 (by simp)) (by simp)
 | x :: xs, y :: ys, hx, hy, h => by
  rw [List.pairwise_cons] at hx hy
  have hxy : x = y := by
   have h1 := (h x).1 (by simp)
   have h2 := (h y).2 (by simp)
   rcases List.mem_cons.1 h1 with e | h1
   ·exact e
   ·rcases List.mem_cons.1 h2 with e | h2
    ·exact e.symm
    ·exact absurd (hx.1 y h2) (fun a => asym _ _ a (hy.1 x h1))
  subst hxy
  rw [sorted_ext R asym xs ys hx.2 hy.2 (fun r => ⟨fun hr => ?_, fun hr => ?_⟩)]
  ·rcases List.mem_cons.1 ((h r).1 (List.mem_cons_of_mem _ hr)) with e | h1
   ·subst e; exact absurd (hx.1 r hr) (fun a => asym _ _ a a)
   ·exact h1
  ·rcases List.mem_cons.1 ((h r).2 (List.mem_cons_of_mem _ hr)) with e | h1
   ·subst e; exact absurd (hy.1 r hr) (fun a => asym _ _ a a)
   ·exact h1
def LexR (p r : List Int) : Prop := rd p 0 < rd r 0 ∨ rd p 0 = rd r 0 ∧ rd p 1 < rd r 1
theorem rowsOk_pairwise {h : Int} : ∀ (rs : List (List Int)) (p : Option (List Int)), rowsOk h p rs = true → (∀ q, p = some q → ∀ r ∈ rs, LexR q r) ∧ rs.Pairwise LexR := by
 intro rs
 induction rs with
 | nil => intro p _; exact ⟨fun q _ r hr => absurd hr (by simp), List.Pairwise.nil⟩
 | cons a rs ih =>
  intro p hp
  unfold rowsOk at hp
  rw [Bool.and_eq_true, Bool.and_eq_true] at hp
  obtain ⟨h1, h2⟩ := ih (some a) hp.2.2
  have h3 := h1 a rfl
  refine ⟨fun q hq r hr => ?_, List.pairwise_cons.2 ⟨h3, h2⟩⟩
  subst hq
  have hqa : LexR q a := of_decide_eq_true (p := rd q 0 < rd a 0 ∨ rd q 0 = rd a 0 ∧ rd q 1 < rd a 1) hp.2.1
  rcases List.mem_cons.1 hr with rfl | hr
  ·exact hqa
  ·have := h3 r hr
   unfold LexR at *
   omega
theorem isGraph_sorted {n : Int} {xs : List (List Int)} (h : isGraph n xs = true) : xs.Pairwise LexR := by
 unfold isGraph at h
 exact (rowsOk_pairwise xs none (Bool.and_eq_true_iff.1 h).2).2
def innerOf (m : Int) (ys : List (List Int)) : List (List Int) := ys.filter fun r => decide (rd r 0 < m ∧ rd r 1 < m)
theorem mem_does {n : Int} {xs : List (List Int)} (h : isGraph n xs = true) (r : List Int) (hr : r.length = 2) : r ∈ xs ↔ does n xs (rd r 0) (rd r 1) = true := by
 unfold does
 rw [h, Bool.true_and, List.any_eq_true]
 constructor
 ·intro hm; exact ⟨r, hm, decide_eq_true ⟨rfl, rfl⟩⟩
 ·rintro ⟨q, hq, h2⟩
  have h2 := of_decide_eq_true h2
  have := two_of (isGraph_row h hq).1
  rw [h2.1, h2.2, ← two_of hr] at this
  rw [← this]; exact hq
theorem part_iff {m n : Int} {xs ys : List (List Int)} (hx : isGraph m xs = true) (hy : isGraph n ys = true) : (∀ i k : Int, 0 ≤ i → i < m → 0 ≤ k → k < m → does m xs i k = does n ys i k) ↔ xs = innerOf m ys := by
 constructor
 ·intro h
  refine sorted_ext LexR (fun a b => by unfold LexR; omega) xs (innerOf m ys) (isGraph_sorted hx) ((isGraph_sorted hy).filter _) fun r => ?_
  unfold innerOf
  rw [List.mem_filter]
  constructor
  ·intro hr
   have hg := isGraph_row hx hr
   have h1 := (mem_does hx r hg.1).1 hr
   rw [h _ _ hg.2.1 (by omega) hg.2.2.2.1 (by omega)] at h1
   exact ⟨(mem_does hy r hg.1).2 h1, decide_eq_true ⟨by omega, by omega⟩⟩
  ·rintro ⟨hr, h2⟩
   have h2 := of_decide_eq_true h2
   have hg := isGraph_row hy hr
   have h1 := (mem_does hy r hg.1).1 hr
   rw [← h _ _ hg.2.1 h2.1 hg.2.2.2.1 h2.2] at h1
   exact (mem_does hx r hg.1).2 h1
 ·intro h i k hi0 hi hk0 hk
  have e1 := mem_does hx [i, k] rfl
  have e2 := mem_does hy [i, k] rfl
  have e3 : [i, k] ∈ xs ↔ [i, k] ∈ ys := by
   rw [h]
   unfold innerOf
   rw [List.mem_filter]
   exact ⟨fun a => a.1, fun a => ⟨a, decide_eq_true ⟨hi, hk⟩⟩⟩
  rw [Bool.eq_iff_iff]
  exact e1.symm.trans (e3.trans e2)
theorem part_l1 (m n : Int) (xs ys : List (List Int)) (hm : m ≤ 10) (hx : xs.length ≤ 1048576) (hy : ys.length ≤ 1048576) (i : Nat) (hi : (i : Int) < m) (b0 : Bool) (h0 : Ev (fun k => spec_IsPartOf.l0 k ((i + 1 : Nat) : Int) m xs n ys) b0) : ∀ (d j : Nat), (j : Int) + d = m → ∃ b, Ev (fun k => spec_IsPartOf.l1 k (i : Int) (j : Int) m xs n ys) b ∧ (b = true ↔ (∀ k : Nat, j ≤ k → (k : Int) < m → does m xs i k = does n ys i k) ∧ b0 = true) := by
 intro d
 induction d with
 | zero =>
  intro j hj
  refine ⟨b0, Ev.step (fun k => by rw [spec_IsPartOf.l1]) (ev_neg (by omega) ?_), ⟨fun h => ⟨fun k a b => by omega, h⟩, fun h => h.2⟩⟩
  rw [wrap_id (by omega) (by omega)]
  exact h0
 | succ d ih =>
  intro j hj
  obtain ⟨b, hb, hb2⟩ := ih (j + 1) (by omega)
  by_cases he : does m xs i j = does n ys i j
  ·refine ⟨b, ?_, hb2.trans ⟨fun h => ⟨fun k a c => ?_, h.2⟩, fun h => ⟨fun k a c => h.1 k (by omega) c, h.2⟩⟩⟩
   ·refine Ev.step (fun k => by rw [spec_IsPartOf.l1]) ?_
    refine ev_pos (by omega) (Ev.bind (doesAttack_spec m xs _ _ hx) (Ev.bind (doesAttack_spec n ys _ _ hy) ?_))
    rw [he, wrap_id (by omega) (by omega)]
    exact ev_neg (by simp) hb
   ·by_cases hk : k = j
    ·subst hk; exact he
    ·exact h.1 k (by omega) c
  ·refine ⟨false, ?_, ⟨fun h => absurd h (by decide), fun h => absurd (h.1 j (Nat.le_refl _) (by omega)) he⟩⟩
   refine Ev.step (fun k => by rw [spec_IsPartOf.l1]) ?_
   refine ev_pos (by omega) (Ev.bind (doesAttack_spec m xs _ _ hx) (Ev.bind (doesAttack_spec n ys _ _ hy) ?_))
   exact ev_pos (bne_iff_ne.2 he) (Ev.now _)
theorem part_l0 (m n : Int) (xs ys : List (List Int)) (hm0 : 0 ≤ m) (hm : m ≤ 10) (hx : xs.length ≤ 1048576) (hy : ys.length ≤ 1048576) : ∀ (d i : Nat), (i : Int) + d = m → ∃ b, Ev (fun k => spec_IsPartOf.l0 k (i : Int) m xs n ys) b ∧ (b = true ↔ ∀ i' k : Nat, i ≤ i' → (i' : Int) < m → (k : Int) < m → does m xs i' k = does n ys i' k) := by
 intro d
 induction d with
 | zero =>
  intro i hi
  exact ⟨true, Ev.step (fun k => by rw [spec_IsPartOf.l0]) (ev_neg (by omega) (Ev.now _)), ⟨fun _ i' k a b => by omega, fun _ => rfl⟩⟩
 | succ d ih =>
  intro i hi
  obtain ⟨b0, hb0, hb02⟩ := ih (i + 1) (by omega)
  obtain ⟨b, hb, hb2⟩ := part_l1 m n xs ys hm hx hy i (by omega) b0 hb0 m.toNat 0 (by omega)
  refine ⟨b, ?_, ?_⟩
  ·refine Ev.step (fun k => by rw [spec_IsPartOf.l0]) ?_
   exact ev_pos (by omega) hb
  rw [hb2, hb02]
  constructor
  ·rintro ⟨h1, h2⟩ i' k a c e
   by_cases hii : i' = i
   ·subst hii; exact h1 k (by omega) e
   ·exact h2 i' k (by omega) c e
  ·intro h
   exact ⟨fun k _ e => h i k (Nat.le_refl _) (by omega) e, fun i' k a c e => h i' k (by omega) c e⟩
theorem alikeRows_ev (xs ys : List Int) (hn : xs.length ≤ 9223372036854775807) : Ev (fun k => rowsAlike.f k xs ys) (decide (xs = ys)) := by
 have l0 : (hl : xs.length = ys.length) → ∀ (zs us : List Int) (i : Nat), xs.drop i = zs → ys.drop i = us → Ev (fun k => rowsAlike.l0 k xs ys xs.length (i : Int)) (decide (zs = us)) := by
  intro hl zs
  induction zs with
  | nil =>
   intro us i h hu
   have := at_end h
   refine Ev.step (fun k => by rw [rowsAlike.l0]) ?_
   rw [List.drop_of_length_le (by omega)] at hu
   subst hu
   exact ev_neg (by omega) (ev_eq (Ev.now _) (by simp))
  | cons z zs ih =>
   intro us i h hu
   obtain ⟨hlt, hz, h2, _⟩ := at_drop h
   cases us with
   | nil => have := at_end hu; omega
   | cons u us =>
    obtain ⟨_, hzu, hu2, _⟩ := at_drop hu
    refine Ev.step (fun k => by rw [rowsAlike.l0]) ?_
    refine ev_pos (by omega) (ev_pos (by omega) (ev_pos (by omega) (ev_pos (by omega) ?_)))
    rw [wrap_id (by omega) (by omega), rd_get hz, rd_get hzu]
    refine ev_ite (fun e => ev_eq (ih us (i + 1) h2 hu2) ?_) (fun e => ev_eq (Ev.now _) ?_)
    ·simp [e]
    ·simp [e]
 unfold rowsAlike.f
 refine ev_ite (fun e => l0 (by omega) xs ys 0 rfl rfl) (fun e => ev_eq (Ev.now _) ?_)
 have : xs ≠ ys := by rintro rfl; exact e rfl
 simp [this]
theorem equalFunc_ev (xs ys : List (List Int)) (hn : xs.length ≤ 1048576) (hi : ∀ y ∈ xs, y.length ≤ 1048576) : Ev (fun k => slices_EqualFunc_int_int_int_int.f k xs ys 61) (decide (xs = ys)) := by
 unfold slices_EqualFunc_int_int_int_int.f
 refine ev_pos rfl (ev_ite (fun e => ?_) (fun e => ev_eq (Ev.now _) ?_))
 ·have l0 : ∀ (zs us : List (List Int)) (i : Nat), xs.drop i = zs → ys.drop i = us → Ev (fun k => slices_EqualFunc_int_int_int_int.l0 k xs ys (i : Int)) (decide (zs = us)) := by
   intro zs
   induction zs with
   | nil =>
    intro us i h hu
    have := at_end h
    refine Ev.step (fun k => by rw [slices_EqualFunc_int_int_int_int.l0]) ?_
    rw [List.drop_of_length_le (by omega)] at hu
    subst hu
    exact ev_neg (by omega) (ev_eq (Ev.now _) (by simp))
   | cons z zs ih =>
    intro us i h hu
    obtain ⟨hlt, hz, h2, _⟩ := at_drop h
    cases us with
    | nil => have := at_end hu; omega
    | cons u us =>
     obtain ⟨_, hzu, hu2, _⟩ := at_drop hu
     have hr : rd_L1 xs (i : Int) = z := getD_at hz
     have hr2 : rd_L1 ys (i : Int) = u := getD_at hzu
     have hzl := hi z (List.mem_of_getElem? hz)
     refine Ev.step (fun k => by rw [slices_EqualFunc_int_int_int_int.l0]) ?_
     refine ev_pos (by omega) (ev_pos (by omega) (ev_pos (by omega) ?_))
     rw [wrap_id (by omega) (by omega), hr, hr2]
     refine Ev.bind (alikeRows_ev z u (by omega)) (ev_ite (fun e => ev_eq (ih us (i + 1) h2 hu2) ?_) (fun e => ev_eq (Ev.now _) ?_))
     ·simp only [decide_eq_true_eq] at e
      simp [e]
     ·simp only [decide_eq_true_eq] at e
      simp [e]
  exact l0 xs ys 0 rfl rfl
 ·have : xs ≠ ys := by rintro rfl; exact e rfl
  simp [this]
theorem partI_l0 (m n : Int) (xs ys : List (List Int)) (hx : xs.length ≤ 1048576) (hi : ∀ y ∈ xs, y.length ≤ 1048576) (hy : ys.length ≤ 1048576) (hg : isGraph n ys = true) : ∀ (zs : List (List Int)) (i : Nat) (acc : List (List Int)), ys.drop i = zs → acc.length ≤ i → acc ++ innerOf m zs = innerOf m ys → Ev (fun k => impl_IsPartOf.l0 k acc ys ys.length (i : Int) m xs) (decide (xs = innerOf m ys)) := by
 intro zs
 induction zs with
 | nil =>
  intro i acc h _ ha
  have := at_end h
  refine Ev.step (fun k => by rw [impl_IsPartOf.l0]) ?_
  rw [show acc = innerOf m ys by simpa [innerOf] using ha]
  exact ev_neg (by omega) (Ev.bind (equalFunc_ev xs _ hx hi) (Ev.now _))
 | cons z zs ih =>
  intro i acc h hl ha
  obtain ⟨hlt, hz, h2, _⟩ := at_drop h
  have hr : rd_L1 ys (i : Int) = z := getD_at hz
  have hrow := isGraph_row hg (List.mem_of_getElem? hz)
  refine Ev.step (fun k => by rw [impl_IsPartOf.l0]) ?_
  rw [hr, wrap_id (by omega) (by omega)]
  have hno : ¬ (rd z 0 < m ∧ rd z 1 < m) → acc ++ innerOf m zs = innerOf m ys := by
   intro hn
   rw [← ha]
   unfold innerOf
   rw [List.filter_cons_of_neg (by simpa using hn)]
  refine ev_pos (by omega) (ev_pos (by omega) (ev_pos (by omega) (ev_pos (by omega) (ev_ite (fun e0 => ev_pos (by omega) (ev_ite (fun e1 => ev_pos (by omega) (ih (i + 1) (acc ++ [z]) h2 (by first | (simp; done) | (simp; omega)) ?_)) (fun e1 => ih (i + 1) acc h2 (by omega) (hno (fun h => e1 h.2))))) (fun e0 => ih (i + 1) acc h2 (by omega) (hno (fun h => e0 h.1)))))))
  rw [← ha]
  unfold innerOf
  rw [List.filter_cons_of_pos (by simp [e0, e1])]
  simp
theorem part_both (m n : Int) (xs ys : List (List Int)) (hx : xs.length ≤ 1048576) (hi : ∀ y ∈ xs, y.length ≤ 1048576) (hy : ys.length ≤ 1048576) : ∃ b, Ev (fun k => spec_IsPartOf.f k m xs n ys) b ∧ Ev (fun k => impl_IsPartOf.f k m xs n ys) b := by
 have js : Ev (fun k => spec_IsPartOf.j0 k true m xs n ys) false := Ev.step (fun k => by rw [spec_IsPartOf.j0]) (ev_pos rfl (Ev.now _))
 have ji : Ev (fun k => impl_IsPartOf.j0 k true m xs n ys) false := Ev.step (fun k => by rw [impl_IsPartOf.j0]) (ev_pos rfl (Ev.now _))
 unfold spec_IsPartOf.f impl_IsPartOf.f
 cases h1 : isGraph m xs with
 | false => exact ⟨false, Ev.bind (isGraph_spec m xs hx) (ev_neg (by rw [h1]; decide) js), Ev.bind (isGraph_impl m xs hx) (ev_neg (by rw [h1]; decide) ji)⟩
 | true =>
  cases h2 : isGraph n ys with
  | false => exact ⟨false, Ev.bind (isGraph_spec m xs hx) (ev_pos h1 (Ev.bind (isGraph_spec n ys hy) (ev_neg (by rw [h2]; decide) js))), Ev.bind (isGraph_impl m xs hx) (ev_pos h1 (Ev.bind (isGraph_impl n ys hy) (ev_neg (by rw [h2]; decide) ji)))⟩
  | true =>
   by_cases h3 : m > n
   ·refine ⟨false, Ev.bind (isGraph_spec m xs hx) (ev_pos h1 (Ev.bind (isGraph_spec n ys hy) (ev_pos h2 ?_))), Ev.bind (isGraph_impl m xs hx) (ev_pos h1 (Ev.bind (isGraph_impl n ys hy) (ev_pos h2 ?_)))⟩
    ·rw [decide_eq_true h3]; exact js
    ·rw [decide_eq_true h3]; exact ji
   ·have hm := isGraph_n h1
    obtain ⟨b, hb, hb2⟩ := part_l0 m n xs ys hm.1 hm.2 hx hy m.toNat 0 (by omega)
    have hbd : b = decide (xs = innerOf m ys) := by
     rw [Bool.eq_iff_iff, hb2, decide_eq_true_eq, ← part_iff h1 h2]
     constructor
     ·intro h i k a c e g
      have := h i.toNat k.toNat (Nat.zero_le _) (by omega) (by omega)
      rw [show ((i.toNat : Nat) : Int) = i by omega, show ((k.toNat : Nat) : Int) = k by omega] at this
      exact this
     ·intro h i k _ c e
      exact h i k (by omega) c (by omega) e
    refine ⟨b, Ev.bind (isGraph_spec m xs hx) (ev_pos h1 (Ev.bind (isGraph_spec n ys hy) (ev_pos h2 ?_))), Ev.bind (isGraph_impl m xs hx) (ev_pos h1 (Ev.bind (isGraph_impl n ys hy) (ev_pos h2 ?_)))⟩
    ·rw [decide_eq_false h3]
     refine Ev.step (fun k => by rw [spec_IsPartOf.j0]) ?_
     exact ev_neg (by decide) hb
    ·rw [decide_eq_false h3, hbd]
     refine Ev.step (fun k => by rw [impl_IsPartOf.j0]) ?_
     exact ev_neg (by decide) (partI_l0 m n xs ys hx hi hy h2 ys 0 [] rfl (by simp) rfl)

theorem FnExactIsPartOf (a0_0 : Int) (g0_0 : (Lit.int .i64 a0_0).wf = true) (l0_1 : List (List (Int))) (g0_1 : l0_1.length ≤ 9223372036854775807 ∧ ∀ y ∈ l0_1, y.length ≤ 9223372036854775807 ∧ ∀ z ∈ y, (Lit.int .i64 z).wf = true) (a1_0 : Int) (g1_0 : (Lit.int .i64 a1_0).wf = true) (l1_1 : List (List (Int))) (g1_1 : l1_1.length ≤ 9223372036854775807 ∧ ∀ y ∈ l1_1, y.length ≤ 9223372036854775807 ∧ ∀ z ∈ y, (Lit.int .i64 z).wf = true) : ∃ k, laws_FnExactIsPartOf.f k a0_0 l0_1 a1_0 l1_1 = some true := by
 refine Ev.rounds (g := fun k => laws_FnExactIsPartOf.f k a0_0 l0_1 a1_0 l1_1) ?_
 unfold laws_FnExactIsPartOf.f
 obtain ⟨r, hr, hrle, hok⟩ := szGraph_n a0_0 l0_1 g0_1.1 (fun y hy => (g0_1.2 y hy).1) 1048576 (by omega) (by omega)
 refine Ev.bind hr (ev_ite (fun _ => Ev.now _) (fun h0 => ?_))
 obtain ⟨hn, hi⟩ := hok h0
 obtain ⟨r2, hr2, _, hok2⟩ := szGraph_n a1_0 l1_1 g1_1.1 (fun y hy => (g1_1.2 y hy).1) r (by omega) hrle
 refine Ev.bind hr2 (ev_ite (fun _ => Ev.now _) (fun h1 => ?_))
 obtain ⟨hn2, hi2⟩ := hok2 h1
 obtain ⟨b, hs, hp⟩ := part_both a0_0 a1_0 l0_1 l1_1 hn hi hn2
 refine Ev.bind (toGraph_ev _ _ hn hi) (Ev.bind (toGraph_ev _ _ hn2 hi2) ?_)
 dsimp only
 refine Ev.bind hs (Ev.bind (toGraph_ev _ _ hn hi) (Ev.bind (toGraph_ev _ _ hn2 hi2) ?_))
 dsimp only
 refine Ev.bind hp (ev_neg (by simp) (Ev.bind (toGraph_ev _ _ hn hi) ?_))
 dsimp only
 refine Ev.bind (eqGraph_same _ _ hn hi) (ev_pos rfl (Ev.bind (toGraph_ev _ _ hn2 hi2) ?_))
 dsimp only
 exact Ev.bind (eqGraph_same _ _ hn2 hi2) (ev_pos rfl (Ev.now _))

end Go.Proofs.Ytkmhkkhlbnhaaaa.Pure
