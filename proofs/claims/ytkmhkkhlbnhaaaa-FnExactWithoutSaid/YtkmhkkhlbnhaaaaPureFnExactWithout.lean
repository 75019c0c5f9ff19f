/- The plain statement of the law FnExactWithout, for all numbers and lists. -/
import Derived.Test.YtkmhkkhlbnhaaaaPFnExactWithoutx0
import Derived.Test.YtkmhkkhlbnhaaaaPFnExactWithoutx1
import Derived.Test.YtkmhkkhlbnhaaaaPFnExactWithoutx2
import Derived.Test.YtkmhkkhlbnhaaaaPFnExactWithoutx3
import Derived.Test.YtkmhkkhlbnhaaaaPFnExactWithoutx4
import Derived.Test.YtkmhkkhlbnhaaaaPFnExactWithoutx5
import Derived.Test.YtkmhkkhlbnhaaaaPFnExactWithoutx6
import Derived.Test.YtkmhkkhlbnhaaaaPFnExactWithoutx7
import Derived.Test.YtkmhkkhlbnhaaaaPFnExactWithoutx8
import Derived.Test.YtkmhkkhlbnhaaaaPFnExactWithoutx9
import Derived.Test.YtkmhkkhlbnhaaaaPFnExactWithoutx10
import Derived.Test.YtkmhkkhlbnhaaaaBase
set_option linter.unusedVariables false
set_option linter.unusedSimpArgs false
namespace Go.Proofs.Ytkmhkkhlbnhaaaa.Pure
open Go.RowKit Go.Proofs.Ytkmhkkhlbnhaaaa.PFnExactWithout Go.Proofs.YtkmhkkhlbnhaaaaW.PrintWords Go.Proofs.YtkmhkkhlbnhaaaaW.PrintLast Go.Proofs.YtkmhkkhlbnhaaaaW.PrintMore Go.Proofs.Ytkmhkkhlbnhaaaa.Base
theorem toIntS_l0 (xs : List Int) (hn : xs.length ≤ 35184372088832) : ∀ (zs : List Int) (i : Nat) (ys : List Int), xs.drop i = zs → ys.length = xs.length → ys.take i = xs.take i → Ev (fun k => laws_toIntS.l0 k xs ys (i : Int)) xs := by
 intro zs
 induction zs with
 | nil =>
  intro i ys h hl ht
  have := at_end h
  refine Ev.step (fun k => by rw [laws_toIntS.l0]) (ev_neg (by omega) ?_)
  rw [List.take_of_length_le (by omega), List.take_of_length_le (by omega)] at ht
  rw [ht]
  exact Ev.now _
 | cons z zs ih =>
  intro i ys h hl ht
  obtain ⟨hi, hz, h', _⟩ := at_drop h
  refine Ev.step (fun k => by rw [laws_toIntS.l0]) (ev_pos (by omega) (ev_pos (by omega) (ev_pos (by omega) ?_)))
  rw [wrap_id (by omega) (by omega), Int.toNat_natCast, rd_get hz]
  exact ih (i + 1) _ h' (by simp [hl]) (by rw [take_set_at (by omega), take_at hz, ht])
theorem toIntS_ev (xs : List Int) (hn : xs.length ≤ 35184372088832) : Ev (fun k => laws_toIntS.f k xs) xs := by
 unfold laws_toIntS.f
 exact ev_pos (by omega) (ev_pos (by omega) (toIntS_l0 xs hn xs 0 _ rfl (by simp) (by simp)))
theorem eqIntS_l0 (xs ys : List Int) (hl : xs.length = ys.length) (hn : xs.length ≤ 9223372036854775807) : ∀ (zs us : List Int) (i : Nat), xs.drop i = zs → ys.drop i = us → Ev (fun k => laws_eqIntS.l0 k xs ys (i : Int)) (decide (zs = us)) := by
 intro zs
 induction zs with
 | nil =>
  intro us i h hu
  have := at_end h
  refine Ev.step (fun k => by rw [laws_eqIntS.l0]) (ev_neg (by omega) ?_)
  rw [List.drop_of_length_le (by omega)] at hu
  subst hu
  exact ev_eq (Ev.now _) (by simp)
 | cons z zs ih =>
  intro us i h hu
  obtain ⟨hi, hz, h', _⟩ := at_drop h
  cases us with
  | nil => have := at_end hu; omega
  | cons u us =>
   obtain ⟨_, hzu, hu', _⟩ := at_drop hu
   refine Ev.step (fun k => by rw [laws_eqIntS.l0]) (ev_pos (by omega) (ev_pos (by omega) (ev_pos (by omega) ?_)))
   rw [wrap_id (by omega) (by omega), rd_get hz, rd_get hzu]
   refine ev_ite (fun e => ev_eq (ih us (i + 1) h' hu') (by simp [e])) (fun e => ev_eq (Ev.now _) (by simp [e]))
theorem eqIntS_ev (xs ys : List Int) (hn : xs.length ≤ 9223372036854775807) : Ev (fun k => laws_eqIntS.f k xs ys) (decide (xs = ys)) := by
 unfold laws_eqIntS.f
 refine ev_ite (fun e => eqIntS_l0 xs ys (by omega) hn xs ys 0 rfl rfl) (fun e => ev_eq (Ev.now _) ?_)
 have : xs ≠ ys := by rintro rfl; exact e rfl
 simp [this]
theorem eqIntS_same (xs : List Int) (hn : xs.length ≤ 9223372036854775807) : Ev (fun k => laws_eqIntS.f k xs xs) true := ev_eq (eqIntS_ev xs xs hn) (by simp)
theorem markIntS_l0 : ∀ (d i : Nat) (xs : List Int) (k0 : Int), i + d = xs.length → 0 ≤ k0 → k0 + d ≤ 9223372036854775807 → xs.length ≤ 9223372036854775807 → Ev (fun k => laws_markIntS.l0 k xs k0 (i : Int)) (k0 + d, xs.take i ++ upFrom k0 d) := by
 intro d
 induction d with
 | zero =>
  intro i xs k0 h _ _ _
  refine Ev.step (fun k => by rw [laws_markIntS.l0]) (ev_neg (by omega) (ev_eq (Ev.now _) ?_))
  rw [List.take_of_length_le (by omega)]
  simp [upFrom]
 | succ d ih =>
  intro i xs k0 h h0 h1 h2
  refine Ev.step (fun k => by rw [laws_markIntS.l0]) (ev_pos (by omega) (ev_pos (by omega) ?_))
  rw [wrap_id (x := (i : Int) + 1) (by omega) (by omega), wrap_id (by omega) (by omega), Int.toNat_natCast]
  refine ev_eq (ih (i + 1) _ (k0 + 1) (by first | (simp; done) | (simp; omega)) (by omega) (by omega) (by simpa using h2)) (Prod.ext (by first | (simp; done) | (simp; omega)) ?_)
  show List.take (i + 1) (xs.set i k0) ++ upFrom (k0 + 1) d = xs.take i ++ upFrom k0 (d + 1)
  rw [take_set_at (by omega), upFrom_succ]
  simp
theorem markIntS_ev (xs : List Int) (k0 : Int) (h0 : 0 ≤ k0) (h1 : k0 + xs.length ≤ 9223372036854775807) : Ev (fun k => laws_markIntS.f k xs k0) (k0 + xs.length, upFrom k0 xs.length) := by
 unfold laws_markIntS.f
 exact ev_eq (markIntS_l0 xs.length 0 xs k0 (by omega) h0 h1 (by omega)) (by simp)
theorem heldIntS_l0 (k1 : Int) (n : Nat) (h0 : 0 ≤ k1) (h1 : k1 + n ≤ 9223372036854775807) : ∀ (d i : Nat), i + d = n → Ev (fun k => laws_heldIntS.l0 k (upFrom k1 n) (k1 + i) (i : Int)) (k1 + n) := by
 intro d
 induction d with
 | zero =>
  intro i h
  refine Ev.step (fun k => by rw [laws_heldIntS.l0]) (ev_neg (by rw [upFrom_length]; omega) ?_)
  exact ev_eq (Ev.now _) (by omega)
 | succ d ih =>
  intro i h
  refine Ev.step (fun k => by rw [laws_heldIntS.l0]) (ev_pos (by rw [upFrom_length]; omega) (ev_pos (by omega) (ev_pos (rd_get (upFrom_get k1 n i (by omega))) ?_)))
  rw [wrap_id (x := (i : Int) + 1) (by omega) (by omega), wrap_id (by omega) (by omega)]
  have := ih (i + 1) (by omega)
  rw [show k1 + ((i + 1 : Nat) : Int) = k1 + i + 1 by omega] at this
  exact this
theorem heldIntS_ev (k1 : Int) (n : Nat) (h0 : 0 ≤ k1) (h1 : k1 + n ≤ 9223372036854775807) : Ev (fun k => laws_heldIntS.f k (upFrom k1 n) k1) (k1 + n) := by
 unfold laws_heldIntS.f
 have := heldIntS_l0 k1 n h0 h1 n 0 (by omega)
 simpa using this
theorem indexInt_l0 (xs : List Int) (x : Int) (hn : xs.length ≤ 9223372036854775807) : ∀ (zs : List Int) (i : Nat), xs.drop i = zs → ∃ r : Int, Ev (fun k => slices_Index_int_int.l0 k xs x xs.length (i : Int)) r ∧ (0 ≤ r ↔ x ∈ zs) := by
 intro zs
 induction zs with
 | nil =>
  intro i h
  have := at_end h
  exact ⟨-1, Ev.step (fun k => by rw [slices_Index_int_int.l0]) (ev_neg (by omega) (Ev.now _)), by simp⟩
 | cons z zs ih =>
  intro i h
  obtain ⟨hi, hz, h', _⟩ := at_drop h
  by_cases e : x = z
  ·refine ⟨i, Ev.step (fun k => by rw [slices_Index_int_int.l0]) (ev_pos (by omega) (ev_pos (by omega) (ev_pos (by omega) ?_))), by simp [e]⟩
   rw [rd_get hz]
   exact ev_pos e (Ev.now _)
  ·obtain ⟨r, hr, hm⟩ := ih (i + 1) h'
   refine ⟨r, Ev.step (fun k => by rw [slices_Index_int_int.l0]) (ev_pos (by omega) (ev_pos (by omega) (ev_pos (by omega) ?_))), by simp [e, hm]⟩
   rw [rd_get hz, wrap_id (by omega) (by omega)]
   exact ev_neg e hr
theorem containsInt_ev (xs : List Int) (x : Int) (hn : xs.length ≤ 9223372036854775807) : Ev (fun k => slices_Contains_int_int.f k xs x) (decide (x ∈ xs)) := by
 unfold slices_Contains_int_int.f slices_Index_int_int.f
 obtain ⟨r, hr, hm⟩ := indexInt_l0 xs x hn xs 0 rfl
 exact Ev.bind hr (ev_eq (Ev.now _) (decide_eq_decide.2 hm))
theorem l1In_eq (x a b : Int) : spec_l1In.f x a b = some (decide (a ≤ x ∧ x ≤ b)) := by
 unfold spec_l1In.f
 by_cases h : a ≤ x <;> simp [h]
theorem inRange_eq (x a b : Int) : impl_InRange.f x a b = some (decide (a ≤ x ∧ x ≤ b)) := by
 unfold impl_InRange.f
 by_cases h : a ≤ x <;> simp [h]

theorem toIntSS_l0 (xs : List (List Int)) (hn : xs.length ≤ 11728124029610) (hi : ∀ y ∈ xs, y.length ≤ 35184372088832) : ∀ (zs : List (List Int)) (i : Nat) (ys : List (List Int)), xs.drop i = zs → ys.length = xs.length → ys.take i = xs.take i → Ev (fun k => laws_toIntSS.l0 k xs ys (i : Int)) xs := by
 intro zs
 induction zs with
 | nil =>
  intro i ys h hl ht
  have := at_end h
  refine Ev.step (fun k => by rw [laws_toIntSS.l0]) ?_
  refine ev_neg (by omega) ?_
  rw [List.take_of_length_le (by omega), List.take_of_length_le (by omega)] at ht
  rw [ht]
  exact Ev.now _
 | cons z zs ih =>
  intro i ys h hl ht
  obtain ⟨hlt, hz, h2, _⟩ := at_drop h
  have hr : rd_L1 xs (i : Int) = z := getD_at hz
  have hm : z ∈ xs := List.mem_of_getElem? hz
  refine Ev.step (fun k => by rw [laws_toIntSS.l0]) ?_
  refine ev_pos (by omega) (ev_pos (by omega) ?_)
  rw [hr]
  refine Ev.bind (toIntS_ev z (hi z hm)) (ev_pos (by omega) ?_)
  rw [wrap_id (by omega) (by omega), Int.toNat_natCast]
  exact ih (i + 1) _ h2 (by simp [hl]) (by rw [take_set_at (by omega), take_at hz, ht])
theorem toIntSS_ev (xs : List (List Int)) (hn : xs.length ≤ 11728124029610) (hi : ∀ y ∈ xs, y.length ≤ 35184372088832) : Ev (fun k => laws_toIntSS.f k xs) xs := by
 unfold laws_toIntSS.f
 exact ev_pos (by omega) (ev_pos (by omega) (toIntSS_l0 xs hn hi xs 0 _ rfl (by simp) (by simp)))
theorem eqIntSS_l0 (xs ys : List (List Int)) (hl : xs.length = ys.length) (hn : xs.length ≤ 9223372036854775807) (hi : ∀ y ∈ xs, y.length ≤ 9223372036854775807) : ∀ (zs us : List (List Int)) (i : Nat), xs.drop i = zs → ys.drop i = us → Ev (fun k => laws_eqIntSS.l0 k xs ys (i : Int)) (decide (zs = us)) := by
 intro zs
 induction zs with
 | nil =>
  intro us i h hu
  have := at_end h
  refine Ev.step (fun k => by rw [laws_eqIntSS.l0]) ?_
  rw [List.drop_of_length_le (by omega)] at hu
  subst hu
  exact ev_neg (by omega) (ev_eq (Ev.now _) (by simp))
 | cons z zs ih =>
  intro us i h hu
  obtain ⟨hlt, hz, h2, _⟩ := at_drop h
  cases us with
  | nil => have := at_end hu; omega
  | cons u us =>
   obtain ⟨_, hzu, hu2, _⟩ := at_drop hu
   have hr : rd_L1 xs (i : Int) = z := getD_at hz
   have hr2 : rd_L1 ys (i : Int) = u := getD_at hzu
   refine Ev.step (fun k => by rw [laws_eqIntSS.l0]) ?_
   refine ev_pos (by omega) (ev_pos (by omega) (ev_pos (by omega) ?_))
   rw [wrap_id (by omega) (by omega), hr, hr2]
   refine Ev.bind (eqIntS_ev z u (hi z (List.mem_of_getElem? hz))) (ev_ite (fun e => ev_eq (ih us (i + 1) h2 hu2) ?_) (fun e => ev_eq (Ev.now _) ?_))
   ·simp only [decide_eq_true_eq] at e
    simp [e]
   ·simp only [decide_eq_true_eq] at e
    simp [e]
theorem eqIntSS_ev (xs ys : List (List Int)) (hn : xs.length ≤ 9223372036854775807) (hi : ∀ y ∈ xs, y.length ≤ 9223372036854775807) : Ev (fun k => laws_eqIntSS.f k xs ys) (decide (xs = ys)) := by
 unfold laws_eqIntSS.f
 refine ev_ite (fun e => eqIntSS_l0 xs ys (by omega) hn hi xs ys 0 rfl rfl) (fun e => ev_eq (Ev.now _) ?_)
 have : xs ≠ ys := by rintro rfl; exact e rfl
 simp [this]
theorem eqIntSS_same (xs : List (List Int)) (hn : xs.length ≤ 9223372036854775807) (hi : ∀ y ∈ xs, y.length ≤ 9223372036854775807) : Ev (fun k => laws_eqIntSS.f k xs xs) true := ev_eq (eqIntSS_ev xs xs hn hi) (by simp)
theorem szIntS_eq (xs : List Int) (n : Int) (h0 : -9223372036854775808 + xs.length ≤ n) (h1 : n ≤ 9223372036854775807) : laws_szIntS.f xs n = some (if n - xs.length < 0 then -1 else n - xs.length) := by
 unfold laws_szIntS.f
 rw [wrap_id (by omega) (by omega)]
 split <;> rfl
theorem szIntSS_l0 (xs : List (List Int)) (hn : xs.length ≤ 9223372036854775807) (hi : ∀ y ∈ xs, y.length ≤ 9223372036854775807) : ∀ (zs : List (List Int)) (i : Nat) (n : Int), xs.drop i = zs → 0 ≤ n → n ≤ 1048576 → ∃ r, Ev (fun k => laws_szIntSS.l0 k xs n (i : Int)) r ∧ (¬ r < 0 → ∀ y ∈ zs, y.length ≤ 1048576) := by
 intro zs
 induction zs with
 | nil =>
  intro i n h _ _
  have := at_end h
  refine ⟨n, Ev.step (fun k => by rw [laws_szIntSS.l0]) ?_, by simp⟩
  exact ev_neg (by omega) (Ev.now _)
 | cons z zs ih =>
  intro i n h h0 h1
  obtain ⟨hlt, hz, h2, _⟩ := at_drop h
  have hr : rd_L1 xs (i : Int) = z := getD_at hz
  have hm := hi z (List.mem_of_getElem? hz)
  by_cases hs : n - (z.length : Int) < 0
  ·refine ⟨-1, Ev.step (fun k => by rw [laws_szIntSS.l0]) ?_, by omega⟩
   refine ev_pos (by omega) (ev_pos (by omega) ?_)
   rw [hr]
   refine ev_bind0 (szIntS_eq z n (by omega) (by omega)) ?_
   rw [if_pos hs]
   exact ev_pos (by omega) (Ev.now _)
  ·obtain ⟨r, hev, hall⟩ := ih (i + 1) (n - z.length) h2 (by omega) (by omega)
   refine ⟨r, Ev.step (fun k => by rw [laws_szIntSS.l0]) ?_, fun hr0 y hy => ?_⟩
   ·refine ev_pos (by omega) (ev_pos (by omega) ?_)
    rw [hr]
    refine ev_bind0 (szIntS_eq z n (by omega) (by omega)) ?_
    rw [if_neg hs, wrap_id (by omega) (by omega)]
    exact ev_neg (by omega) hev
   ·rcases List.mem_cons.1 hy with rfl | hy
    ·omega
    ·exact hall hr0 y hy
theorem szIntSS_ev (xs : List (List Int)) (hn : xs.length ≤ 9223372036854775807) (hi : ∀ y ∈ xs, y.length ≤ 9223372036854775807) : ∃ r, Ev (fun k => laws_szIntSS.f k xs 1048576) r ∧ (¬ r < 0 → xs.length ≤ 1048576 ∧ ∀ y ∈ xs, y.length ≤ 1048576) := by
 unfold laws_szIntSS.f
 by_cases hs : (1048576 : Int) - xs.length < 0
 ·refine ⟨-1, ?_, by omega⟩
  rw [wrap_id (by omega) (by omega)]
  exact ev_pos hs (Ev.now _)
 ·obtain ⟨r, hev, hall⟩ := szIntSS_l0 xs hn hi xs 0 (1048576 - xs.length) rfl (by omega) (by omega)
  refine ⟨r, ?_, fun h => ⟨by omega, hall h⟩⟩
  rw [wrap_id (by omega) (by omega)]
  exact ev_neg hs hev

/-- How many numbers lie in rows of rows. -/
def total : List (List Int) → Nat
 | [] => 0
 | y :: ys => y.length + total ys
/-- The rows, marked: from k on, one behind the other. -/
def markRows (k : Int) : List (List Int) → List (List Int)
 | [] => []
 | y :: ys => upFrom k y.length :: markRows (k + y.length) ys
theorem markRows_length : ∀ (ys : List (List Int)) (k : Int), (markRows k ys).length = ys.length
 | [], _ => rfl
 | _ :: ys, _ => by simp [markRows, markRows_length ys]
theorem total_le (B : Nat) : ∀ ys : List (List Int), (∀ y ∈ ys, y.length ≤ B) → total ys ≤ ys.length * B
 | [], _ => by simp [total]
 | y :: ys, h => by
  have h1 := total_le B ys (fun z hz => h z (List.mem_cons_of_mem _ hz))
  have h2 := h y (List.mem_cons_self ..)
  simp only [total, List.length_cons, Nat.succ_mul]
  omega
theorem total_small (ys : List (List Int)) (hn : ys.length ≤ 1048576) (hi : ∀ y ∈ ys, y.length ≤ 1048576) : total ys ≤ 1099511627776 := by
 have h1 := total_le 1048576 ys hi
 omega
theorem markIntSS_l0 : ∀ (zs done : List (List Int)) (i : Nat) (k0 : Int), done.length = i → 0 ≤ k0 → k0 + total zs ≤ 9223372036854775807 → (done ++ zs).length ≤ 9223372036854775806 → Ev (fun k => laws_markIntSS.l0 k (done ++ zs) k0 (i : Int)) (k0 + total zs, done ++ markRows k0 zs) := by
 intro zs
 induction zs with
 | nil =>
  intro done i k0 hl h0 h1 h2
  refine Ev.step (fun k => by rw [laws_markIntSS.l0]) (ev_neg (by first | (simp; done) | (simp; omega)) (ev_eq (Ev.now _) ?_))
  simp [total, markRows]
 | cons y ys ih =>
  intro done i k0 hl h0 h1 h2
  have hlen : (done ++ y :: ys).length = i + 1 + ys.length := by simp; omega
  simp only [total] at h1
  refine Ev.step (fun k => by rw [laws_markIntSS.l0]) (ev_pos (by rw [hlen]; omega) (ev_pos (by omega) ?_))
  have hg : (done ++ y :: ys).getD (i : Int).toNat [] = y := by
   rw [Int.toNat_natCast, List.getD_eq_getElem?_getD, List.getElem?_append_right (by omega), hl, Nat.sub_self]
   rfl
  rw [hg]
  refine Ev.bind (markIntS_ev y k0 h0 (by omega)) ?_
  have hs : (done ++ y :: ys).set (i : Int).toNat (upFrom k0 y.length) = (done ++ [upFrom k0 y.length]) ++ ys := by
   rw [Int.toNat_natCast, List.set_append_right _ _ (by omega), hl, Nat.sub_self]
   simp
  dsimp only
  rw [hs, wrap_id (x := (i : Int) + 1) (by omega) (by omega)]
  refine ev_eq (ih (done ++ [upFrom k0 y.length]) (i + 1) (k0 + y.length) (by first | (simp; done) | (simp; omega)) (by omega) (by omega) (by rw [List.length_append, List.length_cons] at h2; rw [List.length_append, List.length_append, List.length_singleton]; omega)) ?_
  simp only [total, markRows, List.append_assoc, List.singleton_append, Prod.mk.injEq, and_true]
  omega
theorem markIntSS_ev (ys : List (List Int)) (k0 : Int) (h0 : 0 ≤ k0) (h1 : k0 + total ys ≤ 9223372036854775807) (h2 : ys.length ≤ 9223372036854775806) : Ev (fun k => laws_markIntSS.f k ys k0) (k0 + total ys, markRows k0 ys) := by
 unfold laws_markIntSS.f
 simpa using markIntSS_l0 ys [] 0 k0 rfl h0 h1 (by simpa using h2)
theorem markGraph_ev (n : Int) (ys : List (List Int)) (k0 : Int) (h0 : 0 ≤ k0) (h1 : k0 + total ys ≤ 9223372036854775807) (h2 : ys.length ≤ 9223372036854775806) : Ev (fun k => laws_markGraph.f k n ys k0) (k0 + total ys, markRows k0 ys) := by
 unfold laws_markGraph.f
 exact Ev.bind (markIntSS_ev ys k0 h0 h1 h2) (Ev.now _)
theorem heldIntSS_l0 : ∀ (zs done : List (List Int)) (i : Nat) (k0 : Int), done.length = i → 0 ≤ k0 → k0 + total zs ≤ 9223372036854775807 → (done ++ zs).length ≤ 9223372036854775806 → Ev (fun k => laws_heldIntSS.l0 k (done ++ markRows k0 zs) k0 (i : Int)) (k0 + total zs) := by
 intro zs
 induction zs with
 | nil =>
  intro done i k0 hl h0 h1 h2
  refine Ev.step (fun k => by rw [laws_heldIntSS.l0]) (ev_neg (by simp [markRows]; omega) (ev_eq (Ev.now _) ?_))
  simp [total]
 | cons y ys ih =>
  intro done i k0 hl h0 h1 h2
  have hlen : (done ++ markRows k0 (y :: ys)).length = i + 1 + ys.length := by simp [markRows_length]; omega
  have hlen2 : (done ++ y :: ys).length = i + 1 + ys.length := by simp; omega
  simp only [total] at h1
  refine Ev.step (fun k => by rw [laws_heldIntSS.l0]) (ev_pos (by rw [hlen]; omega) (ev_pos (by omega) ?_))
  have hg : rd_L1 (done ++ markRows k0 (y :: ys)) (i : Int) = upFrom k0 y.length := getD_at (by rw [List.getElem?_append_right (by omega), hl, Nat.sub_self]; rfl)
  rw [hg]
  refine Ev.bind (heldIntS_ev k0 y.length h0 (by omega)) (ev_neg (by omega) ?_)
  rw [wrap_id (x := (i : Int) + 1) (by omega) (by omega), show done ++ markRows k0 (y :: ys) = (done ++ [upFrom k0 y.length]) ++ markRows (k0 + y.length) ys by simp [markRows]]
  refine ev_eq (ih (done ++ [upFrom k0 y.length]) (i + 1) (k0 + y.length) (by first | (simp; done) | (simp; omega)) (by omega) (by omega) (by rw [List.length_append, List.length_cons] at h2; rw [List.length_append, List.length_append, List.length_singleton]; omega)) ?_
  simp only [total]
  omega
theorem heldIntSS_ev (ys : List (List Int)) (k0 : Int) (h0 : 0 ≤ k0) (h1 : k0 + total ys ≤ 9223372036854775807) (h2 : ys.length ≤ 9223372036854775806) : Ev (fun k => laws_heldIntSS.f k (markRows k0 ys) k0) (k0 + total ys) := by
 unfold laws_heldIntSS.f
 simpa using heldIntSS_l0 ys [] 0 k0 rfl h0 h1 (by simpa using h2)
theorem heldGraph_ev (n : Int) (ys : List (List Int)) (k0 : Int) (h0 : 0 ≤ k0) (h1 : k0 + total ys ≤ 9223372036854775807) (h2 : ys.length ≤ 9223372036854775806) : Ev (fun k => laws_heldGraph.f k n (markRows k0 ys) k0) (k0 + total ys) := by
 unfold laws_heldGraph.f
 exact Ev.bind (heldIntSS_ev ys k0 h0 h1 h2) (ev_neg (by omega) (Ev.now _))

theorem szGraph_ev (n : Int) (xs : List (List Int)) (hn : xs.length ≤ 9223372036854775807) (hi : ∀ y ∈ xs, y.length ≤ 9223372036854775807) : ∃ r, Ev (fun k => laws_szGraph.f k n xs 1048576) r ∧ (¬ r < 0 → xs.length ≤ 1048576 ∧ ∀ y ∈ xs, y.length ≤ 1048576) := by
 obtain ⟨r, hr, hok⟩ := szIntSS_ev xs hn hi
 unfold laws_szGraph.f
 by_cases h : r < 0
 ·exact ⟨-1, Ev.bind hr (ev_pos h (Ev.now _)), by omega⟩
 ·exact ⟨r, Ev.bind hr (ev_neg h (Ev.now _)), hok⟩
theorem toGraph_ev (n : Int) (xs : List (List Int)) (hn : xs.length ≤ 1048576) (hi : ∀ y ∈ xs, y.length ≤ 1048576) : Ev (fun k => laws_toGraph.f k n xs) (n, xs) := by
 unfold laws_toGraph.f
 exact Ev.bind (toIntSS_ev xs (by omega) (fun y hy => Nat.le_trans (hi y hy) (by decide))) (Ev.now _)
theorem eqGraph_same (n : Int) (xs : List (List Int)) (hn : xs.length ≤ 1048576) (hi : ∀ y ∈ xs, y.length ≤ 1048576) : Ev (fun k => laws_eqGraph.f k n xs n xs) true := by
 unfold laws_eqGraph.f
 exact ev_pos rfl (Ev.bind (eqIntSS_same xs (by omega) (fun y hy => Nat.le_trans (hi y hy) (by decide))) (ev_pos rfl (Ev.now _)))
def rowOk (h : Int) (r : List Int) : Bool := decide (r.length = 2 ∧ 0 ≤ rd r 0 ∧ rd r 0 ≤ h ∧ 0 ≤ rd r 1 ∧ rd r 1 ≤ h)
def lexLt (p r : List Int) : Bool := decide (rd p 0 < rd r 0 ∨ rd p 0 = rd r 0 ∧ rd p 1 < rd r 1)
def rowsOk (h : Int) : Option (List Int) → List (List Int) → Bool
 | _, [] => true
 | p, r :: rs => rowOk h r && ((match p with | none => true | some q => lexLt q r) && rowsOk h (some r) rs)
def isGraph (n : Int) (rs : List (List Int)) : Bool := decide (0 ≤ n ∧ n ≤ 10) && rowsOk (wrap64 (n - 1)) none rs
theorem isGraph_spec_l0 (n : Int) (xs : List (List Int)) (hn : xs.length ≤ 4611686018427387904) : ∀ (zs : List (List Int)) (i : Nat) (p : Option (List Int)), xs.drop i = zs → (i = 0 ∧ p = none ∨ ∃ q, p = some q ∧ 0 < i ∧ xs[i - 1]? = some q ∧ q.length = 2) → Ev (fun k => spec_IsGraph.l0 k (i : Int) n xs) (rowsOk (wrap64 (n - 1)) p zs && decide (0 ≤ n ∧ n ≤ 10)) := by
 intro zs
 induction zs with
 | nil =>
  intro i p h _
  have := at_end h
  refine Ev.step (fun k => by rw [spec_IsGraph.l0]) ?_
  refine ev_neg (by omega) (ev_bind0 (l1In_eq _ _ _) (ev_eq (Ev.now _) ?_))
  simp [rowsOk]
 | cons z zs ih =>
  intro i p h hp
  obtain ⟨hlt, hz, h2, _⟩ := at_drop h
  have hr : rd_L1 xs (i : Int) = z := getD_at hz
  refine Ev.step (fun k => by rw [spec_IsGraph.l0]) ?_
  refine ev_pos (by omega) (ev_pos (by omega) ?_)
  rw [hr]
  have bad : rowOk (wrap64 (n - 1)) z = false → Ev (fun k => spec_IsGraph.j1 k (i : Int) z true n xs) (rowsOk (wrap64 (n - 1)) p (z :: zs) && decide (0 ≤ n ∧ n ≤ 10)) := by
   intro hb
   refine Ev.step (fun k => by rw [spec_IsGraph.j1]) (ev_pos rfl (ev_eq (Ev.now _) ?_))
   simp [rowsOk, hb]
  refine ev_ite (fun e1 => ev_pos (by omega) (ev_bind0 (l1In_eq _ _ _) (ev_ite (fun e2 => ev_pos (by omega) (ev_bind0 (l1In_eq _ _ _) ?_)) (fun e2 => bad ?_)))) (fun e1 => bad ?_)
  ·have e2 := of_decide_eq_true e2
   by_cases e3 : 0 ≤ rd z 1 ∧ rd z 1 ≤ wrap64 (n - 1)
   ·have hok : rowOk (wrap64 (n - 1)) z = true := decide_eq_true ⟨by omega, e2.1, e2.2, e3.1, e3.2⟩
    have hl2 : z.length = 2 := by omega
    have ih2 := ih (i + 1) (some z) h2 (.inr ⟨z, rfl, by omega, hz, hl2⟩)
    rw [decide_eq_true e3]
    refine Ev.step (fun k => by rw [spec_IsGraph.j1]) (ev_neg (by decide) ?_)
    rw [wrap_id (x := (i : Int) + 1) (by omega) (by omega)]
    rcases hp with ⟨hi0, rfl⟩ | ⟨q, rfl, hi0, hq, hq2⟩
    ·refine ev_neg (by omega) (ev_eq ih2 ?_)
     simp [rowsOk, hok]
    ·have hr2 : rd_L1 xs ((i : Int) - 1) = q := by
      rw [show (i : Int) - 1 = ((i - 1 : Nat) : Int) by omega]
      exact getD_at hq
     rw [wrap_id (x := (i : Int) - 1) (by omega) (by omega), hr2]
     refine ev_pos (by omega) (ev_pos (by omega) (ev_pos (by omega) (ev_pos (by omega) (ev_pos (by omega) ?_))))
     refine ev_ite (fun e4 => ev_eq (Ev.now _) ?_) (fun e4 => ev_ite (fun e5 => ev_pos (by omega) (ev_pos (by omega) (ev_ite (fun e6 => ev_eq (Ev.now _) ?_) (fun e6 => ev_eq ih2 ?_)))) (fun e5 => ev_eq ih2 ?_))
     ·have : lexLt q z = false := decide_eq_false (by omega)
      simp [rowsOk, this]
     ·have : lexLt q z = false := decide_eq_false (by omega)
      simp [rowsOk, this]
     ·have : lexLt q z = true := decide_eq_true (by omega)
      simp [rowsOk, this, hok]
     ·have : lexLt q z = true := decide_eq_true (by omega)
      simp [rowsOk, this, hok]
   ·rw [decide_eq_false e3]
    exact bad (decide_eq_false (by rintro ⟨_, _, _, h4, h5⟩; exact e3 ⟨h4, h5⟩))
  ·have e2 : ¬ _ := fun h => e2 (decide_eq_true h)
   exact decide_eq_false (by rintro ⟨_, h2, h3, _⟩; exact e2 ⟨h2, h3⟩)
  ·exact decide_eq_false (by rintro ⟨h1, _⟩; omega)
theorem isGraph_specB (n : Int) (xs : List (List Int)) (hn : xs.length ≤ 4611686018427387904) : Ev (fun k => spec_IsGraph.f k n xs) (isGraph n xs) := by
 unfold spec_IsGraph.f
 refine ev_eq (isGraph_spec_l0 n xs hn xs 0 none rfl (.inl ⟨rfl, rfl⟩)) ?_
 unfold isGraph
 exact Bool.and_comm _ _
theorem isGraph_spec (n : Int) (xs : List (List Int)) (hn : xs.length ≤ 1048576) : Ev (fun k => spec_IsGraph.f k n xs) (isGraph n xs) := isGraph_specB n xs (by omega)
theorem isGraph_n {n : Int} {xs : List (List Int)} (h : isGraph n xs = true) : 0 ≤ n ∧ n ≤ 10 := by
 unfold isGraph at h
 exact of_decide_eq_true (Bool.and_eq_true_iff.1 h).1
theorem rowsOk_mem {h : Int} : ∀ (rs : List (List Int)) (p : Option (List Int)), rowsOk h p rs = true → ∀ r ∈ rs, rowOk h r = true := by
 intro rs
 induction rs with
 | nil => intro p _ r hr; exact absurd hr (by simp)
 | cons a rs ih =>
  intro p hp r hr
  unfold rowsOk at hp
  simp only [Bool.and_eq_true] at hp
  rcases List.mem_cons.1 hr with rfl | hr
  ·exact hp.1
  ·exact ih (some a) hp.2.2 r hr
theorem isGraph_row {n : Int} {xs : List (List Int)} (h : isGraph n xs = true) {r : List Int} (hr : r ∈ xs) : r.length = 2 ∧ 0 ≤ rd r 0 ∧ rd r 0 ≤ n - 1 ∧ 0 ≤ rd r 1 ∧ rd r 1 ≤ n - 1 := by
 have hn := isGraph_n h
 unfold isGraph at h
 have := of_decide_eq_true (rowsOk_mem xs none (Bool.and_eq_true_iff.1 h).2 r hr)
 rw [wrap_id (by omega) (by omega)] at this
 exact this
theorem compare2 (a b c d : Int) : Ev (fun k => slices_Compare_int_int.f k [a, b] [c, d]) (if a < c then -1 else if a > c then 1 else if b < d then -1 else if b > d then 1 else 0) := by
 have hc : ∀ x y : Int, cmp_Compare_int.f x y = some (if x < y then -1 else if x > y then 1 else 0) := by
  intro x y
  unfold cmp_Compare_int.f cmp_isNaN_int.f
  simp only [bne_self_eq_false, Option.bind_some, Bool.false_eq_true, if_false]
  split
  ·rfl
  ·split <;> rfl
 have hl : ∀ x y : Int, (([x, y] : List Int).length : Int) = 2 := fun _ _ => rfl
 unfold slices_Compare_int_int.f
 refine Ev.step (fun k => by rw [slices_Compare_int_int.l0]) ?_
 rw [hl, hl]
 refine ev_pos (by omega) (ev_pos (by omega) (ev_pos (by omega) (ev_neg (by omega) (ev_pos (by omega) (ev_bind0 (hc _ _) ?_)))))
 rw [show rd [a, b] 0 = a from rfl, show rd [c, d] 0 = c from rfl]
 by_cases h1 : a < c
 ·rw [if_pos h1, if_pos h1]
  exact ev_neg (by omega) (Ev.now _)
 ·rw [if_neg h1, if_neg h1]
  by_cases h2 : a > c
  ·rw [if_pos h2, if_pos h2]
   exact ev_neg (by omega) (Ev.now _)
  ·rw [if_neg h2, if_neg h2]
   refine ev_pos rfl ?_
   rw [wrap_id (x := 0 + 1) (by omega) (by omega)]
   refine Ev.step (fun k => by rw [slices_Compare_int_int.l0]) ?_
   rw [hl, hl]
   refine ev_pos (by omega) (ev_pos (by omega) (ev_pos (by omega) (ev_neg (by omega) (ev_pos (by omega) (ev_bind0 (hc _ _) ?_)))))
   rw [show rd [a, b] (0 + 1) = b from rfl, show rd [c, d] (0 + 1) = d from rfl]
   by_cases h3 : b < d
   ·rw [if_pos h3]
    exact ev_neg (by omega) (Ev.now _)
   ·rw [if_neg h3]
    by_cases h4 : b > d
    ·rw [if_pos h4]
     exact ev_neg (by omega) (Ev.now _)
    ·rw [if_neg h4]
     refine ev_pos rfl ?_
     rw [wrap_id (x := 0 + 1 + 1) (by omega) (by omega)]
     refine Ev.step (fun k => by rw [slices_Compare_int_int.l0]) ?_
     rw [hl, hl]
     exact ev_neg (by omega) (ev_neg (by omega) (Ev.now _))
theorem two_of {r : List Int} (h : r.length = 2) : r = [rd r 0, rd r 1] := by
 match r, h with
 | [a, b], _ => rfl
theorem compare_rows (q z : List Int) (hq : q.length = 2) (hz : z.length = 2) : ∃ c : Int, Ev (fun k => slices_Compare_int_int.f k q z) c ∧ (c ≥ 0 ↔ lexLt q z = false) := by
 refine ⟨_, by rw [two_of hq, two_of hz]; exact compare2 _ _ _ _, ?_⟩
 unfold lexLt
 rw [decide_eq_false_iff_not]
 generalize rd q 0 = a
 generalize rd q 1 = b
 generalize rd z 0 = c
 generalize rd z 1 = d
 split
 ·omega
 ·split
  ·omega
  ·split
   ·omega
   ·split <;> omega
theorem isClaim_eq (n : Int) (xs : List (List Int)) (a : Int) : impl_isClaim.f n xs a = some (decide (0 ≤ a ∧ a ≤ wrap64 (n - 1))) := by
 unfold impl_isClaim.f
 rw [inRange_eq]
 rfl
theorem isGraph_impl_l0 (n : Int) (xs : List (List Int)) (hn : xs.length ≤ 4611686018427387904) : ∀ (zs : List (List Int)) (i : Nat) (p : Option (List Int)), xs.drop i = zs → (i = 0 ∧ p = none ∨ ∃ q, p = some q ∧ 0 < i ∧ xs[i - 1]? = some q ∧ q.length = 2) → Ev (fun k => impl_IsGraph.l0 k xs xs.length (i : Int) n xs) (rowsOk (wrap64 (n - 1)) p zs) := by
 intro zs
 induction zs with
 | nil =>
  intro i p h _
  have := at_end h
  refine Ev.step (fun k => by rw [impl_IsGraph.l0]) ?_
  exact ev_neg (by omega) (Ev.now _)
 | cons z zs ih =>
  intro i p h hp
  obtain ⟨hlt, hz, h2, _⟩ := at_drop h
  have hr : rd_L1 xs (i : Int) = z := getD_at hz
  refine Ev.step (fun k => by rw [impl_IsGraph.l0]) ?_
  refine ev_pos (by omega) (ev_pos (by omega) (ev_pos (by omega) ?_))
  rw [hr]
  have bad : rowOk (wrap64 (n - 1)) z = false → false = rowsOk (wrap64 (n - 1)) p (z :: zs) := by
   intro hb
   simp [rowsOk, hb]
  refine ev_ite (fun e1 => ev_pos (by omega) (ev_bind0 (isClaim_eq _ _ _) (ev_ite (fun e2 => ev_pos (by omega) (ev_bind0 (isClaim_eq _ _ _) (ev_ite (fun e3 => ?_) (fun e3 => ev_eq (Ev.now _) (bad ?_))))) (fun e2 => ev_eq (Ev.now _) (bad ?_))))) (fun e1 => ev_eq (Ev.now _) (bad ?_))
  ·have e2 := of_decide_eq_true e2
   have e3 := of_decide_eq_true e3
   have hok : rowOk (wrap64 (n - 1)) z = true := decide_eq_true ⟨by omega, e2.1, e2.2, e3.1, e3.2⟩
   have hl2 : z.length = 2 := by omega
   have ih2 := ih (i + 1) (some z) h2 (.inr ⟨z, rfl, by omega, hz, hl2⟩)
   rw [wrap_id (x := (i : Int) + 1) (by omega) (by omega)]
   rcases hp with ⟨hi0, rfl⟩ | ⟨q, rfl, hi0, hq, hq2⟩
   ·refine ev_neg (by omega) (ev_eq ih2 ?_)
    simp [rowsOk, hok]
   ·have hr2 : rd_L1 xs ((i : Int) - 1) = q := by
     rw [show (i : Int) - 1 = ((i - 1 : Nat) : Int) by omega]
     exact getD_at hq
    rw [wrap_id (x := (i : Int) - 1) (by omega) (by omega), hr2]
    obtain ⟨c, hc, hc2⟩ := compare_rows q z hq2 hl2
    refine ev_pos (by omega) (ev_pos (by omega) (ev_pos (by omega) (Ev.bind hc (ev_ite (fun e4 => ev_eq (Ev.now _) ?_) (fun e4 => ev_eq ih2 ?_)))))
    ·have := hc2.1 e4
     simp [rowsOk, this]
    ·have : lexLt q z = true := by
      cases hl : lexLt q z with
      | true => rfl
      | false => exact absurd (hc2.2 hl) e4
     simp [rowsOk, this, hok]
  ·have e3 : ¬ _ := fun h => e3 (decide_eq_true h)
   exact decide_eq_false (by rintro ⟨_, _, _, h4, h5⟩; exact e3 ⟨h4, h5⟩)
  ·have e2 : ¬ _ := fun h => e2 (decide_eq_true h)
   exact decide_eq_false (by rintro ⟨_, h2, h3, _⟩; exact e2 ⟨h2, h3⟩)
  ·exact decide_eq_false (by rintro ⟨h1, _⟩; omega)
theorem isGraph_implB (n : Int) (xs : List (List Int)) (hn : xs.length ≤ 4611686018427387904) : Ev (fun k => impl_IsGraph.f k n xs) (isGraph n xs) := by
 unfold impl_IsGraph.f isGraph
 refine ev_bind0 (inRange_eq _ _ _) (ev_ite (fun e => ?_) (fun e => ev_eq (Ev.now _) ?_))
 ·rw [e, Bool.true_and]
  exact isGraph_impl_l0 n xs hn xs 0 none rfl (.inl ⟨rfl, rfl⟩)
 ·rw [show decide (0 ≤ n ∧ n ≤ 10) = false by simpa using e, Bool.false_and]
theorem isGraph_impl (n : Int) (xs : List (List Int)) (hn : xs.length ≤ 1048576) : Ev (fun k => impl_IsGraph.f k n xs) (isGraph n xs) := isGraph_implB n xs (by omega)
def victims (n : Int) (xs : List (List Int)) (a : Int) : List Int := if isGraph n xs then (xs.filter fun r => decide (rd r 0 = a)).map fun r => rd r 1 else []
def attackers (n : Int) (xs : List (List Int)) (a : Int) : List Int := if isGraph n xs then (xs.filter fun r => decide (rd r 1 = a)).map fun r => rd r 0 else []
def does (n : Int) (xs : List (List Int)) (a b : Int) : Bool := isGraph n xs && xs.any fun r => decide (rd r 0 = a ∧ rd r 1 = b)
theorem victims_length (n : Int) (xs : List (List Int)) (a : Int) : (victims n xs a).length ≤ xs.length := by
 unfold victims
 split
 ·rw [List.length_map]; exact List.length_filter_le _ _
 ·simp
theorem attackers_length (n : Int) (xs : List (List Int)) (a : Int) : (attackers n xs a).length ≤ xs.length := by
 unfold attackers
 split
 ·rw [List.length_map]; exact List.length_filter_le _ _
 ·simp
theorem victims_mem (n : Int) (xs : List (List Int)) (a b : Int) : decide (b ∈ victims n xs a) = does n xs a b := by
 rw [Bool.eq_iff_iff, decide_eq_true_eq]
 unfold victims does
 cases isGraph n xs with
 | false => simp
 | true =>
  rw [if_pos rfl, Bool.true_and, List.any_eq_true, List.mem_map]
  constructor
  ·rintro ⟨r, hr, rfl⟩
   rw [List.mem_filter] at hr
   exact ⟨r, hr.1, decide_eq_true ⟨of_decide_eq_true hr.2, rfl⟩⟩
  ·rintro ⟨r, hr, h⟩
   have h := of_decide_eq_true h
   exact ⟨r, List.mem_filter.2 ⟨hr, decide_eq_true h.1⟩, h.2⟩
theorem does_range {n : Int} {xs : List (List Int)} {a b : Int} (h : does n xs a b = true) : 0 ≤ a ∧ a ≤ n - 1 ∧ 0 ≤ b ∧ b ≤ n - 1 := by
 unfold does at h
 rw [Bool.and_eq_true, List.any_eq_true] at h
 obtain ⟨hg, r, hr, h2⟩ := h
 have h2 := of_decide_eq_true h2
 have := isGraph_row hg hr
 rw [h2.1, h2.2] at this
 exact ⟨this.2.1, this.2.2.1, this.2.2.2.1, this.2.2.2.2⟩
theorem copyG_l0 (n : Int) (xs : List (List Int)) (hn : xs.length ≤ 1048576) (hi : ∀ y ∈ xs, y.length ≤ 1048576) : ∀ (zs : List (List Int)) (i : Nat) (m : Int) (acc : List (List Int)), xs.drop i = zs → acc.length = i → Ev (fun k => spec_l4Copy.l0 k (i : Int) n xs m acc) (m, acc ++ zs) := by
 intro zs
 induction zs with
 | nil =>
  intro i m acc h hl
  have := at_end h
  refine Ev.step (fun k => by rw [spec_l4Copy.l0]) ?_
  exact ev_neg (by omega) (ev_eq (Ev.now _) (by simp))
 | cons z zs ih =>
  intro i m acc h hl
  obtain ⟨hlt, hz, h2, _⟩ := at_drop h
  have hr : rd_L1 xs (i : Int) = z := getD_at hz
  have hm := hi z (List.mem_of_getElem? hz)
  refine Ev.step (fun k => by rw [spec_l4Copy.l0]) ?_
  refine ev_pos (by omega) (ev_bind0 (a := ([] : List Int)) rfl (ev_pos (by omega) ?_))
  rw [hr, wrap_id (x := (i : Int) + 1) (by omega) (by omega)]
  refine ev_pos (by simp only [List.length_nil]; omega) (ev_pos (by omega) ?_)
  refine ev_eq (ih (i + 1) m (acc ++ [[] ++ z]) h2 (by first | (simp; done) | (simp; omega))) (by simp)
theorem copyG_ev (n : Int) (xs : List (List Int)) (hn : xs.length ≤ 1048576) (hi : ∀ y ∈ xs, y.length ≤ 1048576) : Ev (fun k => spec_l4Copy.f k n xs) (n, xs) := by
 unfold spec_l4Copy.f
 simpa using copyG_l0 n xs hn hi xs 0 n [] rfl rfl
theorem cloneI_eq (xs : List Int) (h : xs.length ≤ 1048576) : slices_Clone_int_int.f xs = some xs := by
 unfold slices_Clone_int_int.f
 rw [Option.bind_some, if_pos (by simp only [List.length_nil]; omega)]
 rfl
theorem cloneG_l0 (n : Int) (xs : List (List Int)) (hn : xs.length ≤ 1048576) (hi : ∀ y ∈ xs, y.length ≤ 1048576) : ∀ (zs : List (List Int)) (i : Nat) (m : Int) (acc : List (List Int)), xs.drop i = zs → acc.length = i → Ev (fun k => impl_cloneGraph.l0 k xs (xs.length : Int) (i : Int) m acc) (m, acc ++ zs) := by
 intro zs
 induction zs with
 | nil =>
  intro i m acc h hl
  have := at_end h
  refine Ev.step (fun k => by rw [impl_cloneGraph.l0]) ?_
  exact ev_neg (by omega) (ev_eq (Ev.now _) (by simp))
 | cons z zs ih =>
  intro i m acc h hl
  obtain ⟨hlt, hz, h2, _⟩ := at_drop h
  have hr : rd_L1 xs (i : Int) = z := getD_at hz
  have hm := hi z (List.mem_of_getElem? hz)
  refine Ev.step (fun k => by rw [impl_cloneGraph.l0]) ?_
  refine ev_pos (by omega) (ev_pos (by omega) (ev_pos (by omega) ?_))
  rw [hr, wrap_id (x := (i : Int) + 1) (by omega) (by omega)]
  refine ev_bind0 (cloneI_eq z hm) (ev_pos (by omega) ?_)
  refine ev_eq (ih (i + 1) m (acc ++ [z]) h2 (by first | (simp; done) | (simp; omega))) (by simp)
theorem cloneG_ev (n : Int) (xs : List (List Int)) (hn : xs.length ≤ 1048576) (hi : ∀ y ∈ xs, y.length ≤ 1048576) : Ev (fun k => impl_cloneGraph.f k n xs) (n, xs) := by
 unfold impl_cloneGraph.f
 simpa using cloneG_l0 n xs hn hi xs 0 n [] rfl rfl
/-- The claim n attacks each of these. -/
def newRows (n : Int) (cs : List Int) : List (List Int) := cs.map fun a => [n, a]
def inR (n a : Int) : Bool := decide (0 ≤ a ∧ a ≤ wrap64 (n - 1))
def withG (n : Int) (xs : List (List Int)) (cs : List Int) : Int × List (List Int) × Bool :=
 if isGraph n xs = true ∧ (cs.all (inR n)) = true ∧ isGraph (n + 1) (xs ++ newRows n cs) = true then (n + 1, xs ++ newRows n cs, true) else (n, xs, false)
theorem newRows_length (n : Int) (cs : List Int) : (newRows n cs).length = cs.length := by simp [newRows]
theorem rowsOk_tail {h : Int} : ∀ (xs ys : List (List Int)) (p : Option (List Int)), rowsOk h p (xs ++ ys) = true → ∃ q, rowsOk h q ys = true := by
 intro xs
 induction xs with
 | nil => intro ys p hp; exact ⟨p, hp⟩
 | cons x xs ih =>
  intro ys p hp
  rw [List.cons_append] at hp
  unfold rowsOk at hp
  simp only [Bool.and_eq_true] at hp
  exact ih ys _ hp.2.2
/-- Going up. -/
def upward : List Int → Bool
 | [] => true
 | [_] => true
 | a :: b :: r => decide (a < b) && upward (b :: r)
theorem newRows_up {h n : Int} : ∀ (cs : List Int) (q : Option (List Int)), rowsOk h q (newRows n cs) = true → upward cs = true := by
 intro cs
 induction cs with
 | nil => intro _ _; rfl
 | cons a cs ih =>
  intro q hq
  cases cs with
  | nil => rfl
  | cons b cs =>
   simp only [newRows, List.map_cons] at hq
   unfold rowsOk at hq
   simp only [Bool.and_eq_true] at hq
   have h2 := hq.2.2
   have h3 := ih (some [n, a]) (by simpa only [newRows, List.map_cons] using h2)
   unfold rowsOk at h2
   simp only [Bool.and_eq_true] at h2
   have h4 := of_decide_eq_true h2.2.1
   simp only [show rd [n, a] 0 = n from rfl, show rd [n, b] 0 = n from rfl, show rd [n, a] 1 = a from rfl, show rd [n, b] 1 = b from rfl] at h4
   unfold upward
   rw [h3, Bool.and_true]
   exact decide_eq_true (by omega)
theorem withG_up {n : Int} {xs : List (List Int)} {cs : List Int} (h : isGraph (n + 1) (xs ++ newRows n cs) = true) : upward cs = true := by
 unfold isGraph at h
 obtain ⟨q, hq⟩ := rowsOk_tail xs _ _ (Bool.and_eq_true_iff.1 h).2
 exact newRows_up cs q hq
theorem eqGraph_sameB (n : Int) (xs : List (List Int)) (hn : xs.length ≤ 9223372036854775807) (hi : ∀ y ∈ xs, y.length ≤ 9223372036854775807) : Ev (fun k => laws_eqGraph.f k n xs n xs) true := by
 unfold laws_eqGraph.f
 exact ev_pos rfl (Ev.bind (eqIntSS_same xs hn hi) (ev_pos rfl (Ev.now _)))
def lessC (c a : Int) : Int := if a > c then a - 1 else a
def aside (c : Int) (r : List Int) : Bool := decide (rd r 0 = c ∨ rd r 1 = c)
def dropRows (c : Int) : List (List Int) → List (List Int)
 | [] => []
 | r :: rs => if aside c r then dropRows c rs else [lessC c (rd r 0), lessC c (rd r 1)] :: dropRows c rs
theorem dropRows_cons (c : Int) (r : List Int) (rs : List (List Int)) : dropRows c (r :: rs) = if aside c r then dropRows c rs else [lessC c (rd r 0), lessC c (rd r 1)] :: dropRows c rs := rfl
def withoutG (n : Int) (xs : List (List Int)) (c : Int) : Int × List (List Int) × Bool :=
 if isGraph n xs = true ∧ (0 ≤ c ∧ c ≤ wrap64 (n - 1)) then (wrap64 (n - 1), dropRows c xs, true) else (n, xs, false)
theorem dropRows_size (c : Int) : ∀ xs : List (List Int), (dropRows c xs).length ≤ xs.length ∧ ∀ y ∈ dropRows c xs, y.length ≤ 1048576
 | [] => ⟨Nat.le_refl _, fun y hy => absurd hy (by simp [dropRows])⟩
 | r :: rs => by
  have ih := dropRows_size c rs
  unfold dropRows
  split
  ·exact ⟨Nat.le_trans ih.1 (by simp), ih.2⟩
  ·refine ⟨by simp; omega, fun y hy => ?_⟩
   rcases List.mem_cons.1 hy with rfl | h
   ·show 2 ≤ 1048576
    omega
   ·exact ih.2 y h
theorem withoutG_size (n : Int) (xs : List (List Int)) (c : Int) (hn : xs.length ≤ 1048576) (hi : ∀ y ∈ xs, y.length ≤ 1048576) : (withoutG n xs c).2.1.length ≤ 1048576 ∧ ∀ y ∈ (withoutG n xs c).2.1, y.length ≤ 1048576 := by
 unfold withoutG
 split
 ·exact ⟨Nat.le_trans (dropRows_size c xs).1 hn, (dropRows_size c xs).2⟩
 ·exact ⟨hn, hi⟩
theorem two {r : List Int} (h : r.length = 2) : r = [rd r 0, rd r 1] := by
 match r, h with
 | [a, b], _ => rfl
theorem withoutS_l0 (n m c : Int) (xs : List (List Int)) (hg : isGraph n xs = true) (hn : xs.length ≤ 1048576) : ∀ (zs : List (List Int)) (i : Nat) (acc : List (List Int)), xs.drop i = zs → acc.length ≤ i → Ev (fun k => spec_Without.l0 k c (i : Int) n xs m acc) (m, acc ++ dropRows c zs, true) := by
 have hb := isGraph_n hg
 intro zs
 induction zs with
 | nil =>
  intro i acc h hl
  have := at_end h
  refine Ev.step (fun k => by rw [spec_Without.l0]) ?_
  exact ev_neg (by omega) (ev_eq (Ev.now _) (by simp [dropRows]))
 | cons z zs ih =>
  intro i acc h hl
  obtain ⟨hlt, hz, h2, _⟩ := at_drop h
  have hr : rd_L1 xs (i : Int) = z := getD_at hz
  obtain ⟨hlen, h0, h0n, h1, h1n⟩ := isGraph_row hg (List.mem_of_getElem? hz)
  have hw : wrap64 ((i : Int) + 1) = (i : Int) + 1 := wrap_id (by omega) (by omega)
  have hl9 : ∀ a : Int, 0 ≤ a → a ≤ n - 1 → spec_l9Less.f a c = some (lessC c a) := by
   intro a ha ha2
   unfold spec_l9Less.f lessC
   split
   ·rw [wrap_id (by omega) (by omega)]
   ·rfl
  have jump : ∀ b : Bool, b = !aside c z → Ev (fun k => spec_Without.j2 k c (i : Int) z b n xs m acc) (m, acc ++ dropRows c (z :: zs), true) := by
   intro b hb2
   refine Ev.step (fun k => by rw [spec_Without.j2]) ?_
   rw [hw]
   refine ev_ite (fun e => ?_) (fun e => ?_)
   ·have ha : aside c z = false := by rw [hb2] at e; simpa using e
    refine ev_pos (by omega) (ev_bind0 (hl9 _ h0 h0n) (ev_pos (by omega) (ev_bind0 (hl9 _ h1 h1n) (ev_pos (by omega) ?_))))
    refine ev_eq (ih (i + 1) _ h2 (by first | (simp; done) | (simp; omega))) ?_
    rw [dropRows_cons, ha]
    simp
   ·have ha : aside c z = true := by rw [hb2] at e; simpa using e
    refine ev_eq (ih (i + 1) acc h2 (by omega)) ?_
    rw [show dropRows c (z :: zs) = dropRows c zs by rw [dropRows_cons, ha]; rfl]
  refine Ev.step (fun k => by rw [spec_Without.l0]) ?_
  refine ev_pos (by omega) (ev_pos (by omega) ?_)
  rw [hr]
  refine ev_pos (by omega) (ev_ite (fun e => jump false ?_) (fun e => ev_pos (by omega) (jump _ ?_)))
  ·simp [aside, e]
  ·simp only [aside, e, false_or]
   by_cases e2 : rd z 1 = c <;> simp [e2]
theorem without_spec (n : Int) (xs : List (List Int)) (c : Int) (hn : xs.length ≤ 1048576) (hi : ∀ y ∈ xs, y.length ≤ 1048576) : Ev (fun k => spec_Without.f k n xs c) (withoutG n xs c) := by
 have hc := copyG_ev n xs hn hi
 have out : ¬ (isGraph n xs = true ∧ (0 ≤ c ∧ c ≤ wrap64 (n - 1))) → Ev (fun k => spec_Without.j0 k c true n xs) (withoutG n xs c) := by
  intro h
  refine Ev.step (fun k => by rw [spec_Without.j0]) (ev_pos rfl (Ev.bind hc (ev_eq (Ev.now _) ?_)))
  unfold withoutG
  rw [if_neg h]
 unfold spec_Without.f
 refine Ev.bind (isGraph_spec n xs hn) (ev_ite (fun e => ev_bind0 (l1In_eq _ _ _) ?_) (fun e => out (fun h => e h.1)))
 by_cases hin : 0 ≤ c ∧ c ≤ wrap64 (n - 1)
 ·rw [decide_eq_true hin]
  refine Ev.step (fun k => by rw [spec_Without.j0]) (ev_neg (by decide) ?_)
  refine ev_eq (withoutS_l0 n _ c xs e hn xs 0 [] rfl (by simp)) ?_
  unfold withoutG
  rw [if_pos ⟨e, hin⟩]
  simp
 ·rw [decide_eq_false hin]
  exact out (fun h => hin h.2)
theorem withoutI_l1 (c m : Int) (xs : List (List Int)) (len i31 : Int) (acc : List (List Int)) (ha : acc.length < 5864062014805) (hi31 : wrap64 (i31 + 1) = i31 + 1) (R : Int × List (List Int) × Bool) : ∀ (zs done : List Int) (i : Nat), done.length = i → (∀ z ∈ zs, 0 ≤ z ∧ z ≤ 10) → (done ++ zs).length ≤ 1048576 → Ev (fun k => impl_Without.l0 k c xs len (i31 + 1) m (acc ++ [done ++ zs.map (lessC c)])) R → Ev (fun k => impl_Without.l1 k c (done ++ zs) xs len i31 ((done ++ zs).length : Int) (i : Int) m acc) R := by
 intro zs
 induction zs with
 | nil =>
  intro done i hl hz hlen hR
  refine Ev.step (fun k => by rw [impl_Without.l1]) ?_
  refine ev_neg (by first | (simp; done) | (simp; omega)) (ev_pos ha ?_)
  rw [hi31]
  simpa using hR
 | cons z zs ih =>
  intro done i hl hz hlen hR
  have hz0 := hz z (List.mem_cons_self ..)
  have hln : (done ++ z :: zs).length = i + 1 + zs.length := by simp; omega
  have hg : rd (done ++ z :: zs) (i : Int) = z := rd_get (by rw [List.getElem?_append_right (by omega), hl, Nat.sub_self]; rfl)
  refine Ev.step (fun k => by rw [impl_Without.l1]) ?_
  refine ev_pos (by omega) (ev_pos (by omega) (ev_pos (by omega) ?_))
  rw [hg, wrap_id (x := (i : Int) + 1) (by omega) (by omega)]
  have next : ∀ y : Int, y = lessC c z → Ev (fun k => impl_Without.l1 k c (done ++ y :: zs) xs len i31 ((done ++ z :: zs).length : Int) ((i : Int) + 1) m acc) R := by
   intro y hy
   have h1 := ih (done ++ [y]) (i + 1) (by first | (simp; done) | (simp; omega)) (fun x hx => hz x (List.mem_cons_of_mem _ hx)) (by rw [List.append_assoc, List.singleton_append, List.length_append, List.length_cons]; rw [List.length_append, List.length_cons] at hlen; exact hlen) (by rw [hy, List.append_assoc, List.singleton_append]; simpa using hR)
   rw [List.append_assoc, List.singleton_append] at h1
   rw [show ((done ++ z :: zs).length : Int) = ((done ++ y :: zs).length : Int) by simp]
   exact h1
  refine ev_ite (fun e => ?_) (fun e => next z ?_)
  ·have hs : (done ++ z :: zs).set (i : Int).toNat (wrap64 (z - 1)) = done ++ wrap64 (z - 1) :: zs := by
    rw [Int.toNat_natCast, List.set_append_right _ _ (by omega), hl, Nat.sub_self]
    rfl
   rw [hs]
   refine next _ ?_
   unfold lessC
   rw [if_pos e, wrap_id (by omega) (by omega)]
  ·unfold lessC
   rw [if_neg e]
theorem withoutI_l0 (n m c : Int) (xs : List (List Int)) (hg : isGraph n xs = true) (hn : xs.length ≤ 1048576) : ∀ (zs : List (List Int)) (i : Nat) (acc : List (List Int)), xs.drop i = zs → acc.length ≤ i → Ev (fun k => impl_Without.l0 k c xs (xs.length : Int) (i : Int) m acc) (m, acc ++ dropRows c zs, true) := by
 have hb := isGraph_n hg
 intro zs
 induction zs with
 | nil =>
  intro i acc h hl
  have := at_end h
  refine Ev.step (fun k => by rw [impl_Without.l0]) ?_
  exact ev_neg (by omega) (ev_eq (Ev.now _) (by simp [dropRows]))
 | cons z zs ih =>
  intro i acc h hl
  obtain ⟨hlt, hz, h2, _⟩ := at_drop h
  have hr : rd_L1 xs (i : Int) = z := getD_at hz
  obtain ⟨hlen, h0, h0n, h1, h1n⟩ := isGraph_row hg (List.mem_of_getElem? hz)
  have hw : wrap64 ((i : Int) + 1) = (i : Int) + 1 := wrap_id (by omega) (by omega)
  have h2z := two hlen
  refine Ev.step (fun k => by rw [impl_Without.l0]) ?_
  refine ev_pos (by omega) (ev_pos (by omega) (ev_pos (by omega) ?_))
  rw [hr]
  have hmem : decide (c ∈ z) = aside c z := by
   unfold aside
   rw [decide_eq_decide]
   rw [h2z]
   simp only [List.mem_cons, List.not_mem_nil, or_false, show rd [rd z 0, rd z 1] 0 = rd z 0 from rfl, show rd [rd z 0, rd z 1] 1 = rd z 1 from rfl]
   constructor
   ·rintro (e | e)
    ·exact .inl e.symm
    ·exact .inr e.symm
   ·rintro (e | e)
    ·exact .inl e.symm
    ·exact .inr e.symm
  refine Ev.bind (containsInt_ev z c (by omega)) ?_
  rw [hmem]
  refine ev_ite (fun e => ?_) (fun e => ?_)
  ·rw [hw]
   refine ev_eq (ih (i + 1) acc h2 (by omega)) ?_
   rw [show dropRows c (z :: zs) = dropRows c zs by rw [dropRows_cons, e]; rfl]
  ·have ha : aside c z = false := by simpa using e
   refine ev_bind0 (cloneI_eq z (by omega)) ?_
   have hmap : z.map (lessC c) = [lessC c (rd z 0), lessC c (rd z 1)] := by
    rw [h2z]
    rfl
   refine withoutI_l1 c m xs _ (i : Int) acc (by omega) hw _ z [] 0 rfl (fun y hy => ?_) (by first | (simp; done) | (simp; omega)) ?_
   ·rw [h2z] at hy
    rcases List.mem_cons.1 hy with rfl | hy
    ·omega
    ·rcases List.mem_cons.1 hy with rfl | hy
     ·omega
     ·exact absurd hy (by simp)
   ·rw [List.nil_append, hmap]
    refine ev_eq (ih (i + 1) _ h2 (by first | (simp; done) | (simp; omega))) ?_
    rw [dropRows_cons, ha]
    simp
theorem without_impl (n : Int) (xs : List (List Int)) (c : Int) (hn : xs.length ≤ 1048576) (hi : ∀ y ∈ xs, y.length ≤ 1048576) : Ev (fun k => impl_Without.f k n xs c) (withoutG n xs c) := by
 have hc := cloneG_ev n xs hn hi
 have out : ¬ (isGraph n xs = true ∧ (0 ≤ c ∧ c ≤ wrap64 (n - 1))) → Ev (fun k => impl_Without.j0 k c true n xs) (withoutG n xs c) := by
  intro h
  refine Ev.step (fun k => by rw [impl_Without.j0]) (ev_pos rfl (Ev.bind hc (ev_eq (Ev.now _) ?_)))
  unfold withoutG
  rw [if_neg h]
 unfold impl_Without.f
 refine Ev.bind (isGraph_impl n xs hn) (ev_ite (fun e => ev_bind0 (isClaim_eq _ _ _) ?_) (fun e => out (fun h => e h.1)))
 by_cases hin : 0 ≤ c ∧ c ≤ wrap64 (n - 1)
 ·rw [decide_eq_true hin]
  refine Ev.step (fun k => by rw [impl_Without.j0]) (ev_neg (by decide) ?_)
  refine ev_eq (withoutI_l0 n _ c xs e hn xs 0 [] rfl (by simp)) ?_
  unfold withoutG
  rw [if_pos ⟨e, hin⟩]
  simp
 ·rw [decide_eq_false hin]
  exact out (fun h => hin h.2)

theorem FnExactWithout (a0_0 : Int) (g0_0 : (Lit.int .i64 a0_0).wf = true) (l0_1 : List (List (Int))) (g0_1 : l0_1.length ≤ 9223372036854775807 ∧ ∀ y ∈ l0_1, y.length ≤ 9223372036854775807 ∧ ∀ z ∈ y, (Lit.int .i64 z).wf = true) (a1 : Int) (g1 : (Lit.int .i64 a1).wf = true) : ∃ k, laws_FnExactWithout.f k a0_0 l0_1 a1 = some true := by
 refine Ev.rounds (g := fun k => laws_FnExactWithout.f k a0_0 l0_1 a1) ?_
 unfold laws_FnExactWithout.f
 obtain ⟨r, hr, hok⟩ := szGraph_ev a0_0 l0_1 g0_1.1 (fun y hy => (g0_1.2 y hy).1)
 refine Ev.bind hr (ev_ite (fun _ => Ev.now _) (fun h0 => ?_))
 obtain ⟨hn, hi⟩ := hok h0
 have hs := without_spec a0_0 l0_1 a1 hn hi
 have hp := without_impl a0_0 l0_1 a1 hn hi
 obtain ⟨hwn, hwi⟩ := withoutG_size a0_0 l0_1 a1 hn hi
 have ht := total_small l0_1 hn hi
 have hG := toGraph_ev a0_0 l0_1 hn hi
 generalize withoutG a0_0 l0_1 a1 = W at hs hp hwn hwi
 obtain ⟨m, rs, fl⟩ := W
 dsimp only at hwn hwi
 have hwt := total_le 1048576 rs hwi
 have hwt2 : total rs ≤ 2199023255552 := by omega
 have hE := eqGraph_sameB m rs (by omega) (fun y hy => Nat.le_trans (hwi y hy) (by omega))
 refine Ev.bind hG ?_
 dsimp only
 refine Ev.bind hs ?_
 dsimp only
 refine Ev.bind hG ?_
 dsimp only
 refine Ev.bind hp ?_
 dsimp only
 refine Ev.bind hE (ev_pos rfl ?_)
 refine Ev.step (fun k => by rw [laws_FnExactWithout.j0]) ?_
 refine ev_neg (by simp) (Ev.bind hG ?_)
 dsimp only
 refine Ev.bind (eqGraph_same _ _ hn hi) (ev_pos rfl ?_)
 refine Ev.bind (markGraph_ev a0_0 l0_1 1 (by omega) (by omega) (by omega)) ?_
 dsimp only
 refine ev_neg (by omega) (Ev.bind hE (ev_pos rfl ?_))
 refine Ev.step (fun k => by rw [laws_FnExactWithout.j1]) ?_
 refine ev_neg (by simp) (Ev.bind (markGraph_ev m rs 1 (by omega) (by omega) (by omega)) ?_)
 dsimp only
 refine Ev.bind (heldGraph_ev m rs 1 (by omega) (by omega) (by omega)) (ev_neg (by omega) (ev_pos rfl ?_))
 refine Ev.bind hG ?_
 dsimp only
 refine Ev.bind hp ?_
 dsimp only
 refine Ev.bind hE (ev_pos rfl ?_)
 refine Ev.step (fun k => by rw [laws_FnExactWithout.j2]) ?_
 exact ev_neg (by simp) (Ev.bind (heldGraph_ev m rs 1 (by omega) (by omega) (by omega)) (ev_neg (by omega) (ev_pos rfl (Ev.now _))))

end Go.Proofs.Ytkmhkkhlbnhaaaa.Pure
