/- The plain statement of the law FnExactRenamed, for all numbers and lists. -/
import Derived.Test.YtdlobolnajcfnaaPFnExactRenamedx0
import Derived.Test.YtdlobolnajcfnaaPFnExactRenamedx1
import Derived.Test.YtdlobolnajcfnaaPFnExactRenamedx2
import Derived.Test.YtdlobolnajcfnaaPFnExactRenamedx3
import Derived.Test.YtdlobolnajcfnaaPFnExactRenamedx4
import Derived.Test.YtdlobolnajcfnaaPFnExactRenamedx5
import Derived.Test.YtdlobolnajcfnaaPFnExactRenamedx6
import Derived.Test.YtdlobolnajcfnaaPFnExactRenamedx7
import Derived.Test.YtdlobolnajcfnaaPFnExactRenamedx8
import Derived.Test.YtdlobolnajcfnaaPFnExactRenamedx9
import Derived.Test.YtdlobolnajcfnaaPFnExactRenamedx10
import Derived.Test.YtdlobolnajcfnaaPFnExactRenamedx11
import Derived.Test.YtdlobolnajcfnaaBase
set_option linter.unusedVariables false
set_option linter.unusedSimpArgs false
namespace Go.Proofs.Ytdlobolnajcfnaa.Pure
open Go.RowKit Go.Proofs.Ytdlobolnajcfnaa.PFnExactRenamed Go.Proofs.YtdlobolnajcfnaaW.PrintWords Go.Proofs.YtdlobolnajcfnaaW.PrintLast Go.Proofs.YtdlobolnajcfnaaW.PrintMore Go.Proofs.Ytdlobolnajcfnaa.Base
theorem toIntS_l0 (xs : List Int) (hn : xs.length ≤ 35184372088832) : ∀ (zs : List Int) (i : Nat) (ys : List Int), xs.drop i = zs → ys.length = xs.length → ys.take i = xs.take i → Ev (fun k => laws_toIntS.l0 k xs ys (i : Int)) xs := by
  intro zs
  induction zs with
  | nil =>
    intro i ys h hl ht
    have := at_end h
    refine Ev.step (fun k => by rw [laws_toIntS.l0]) (ev_neg (by omega) ?_)
    rw [List.take_of_length_le (by omega), List.take_of_length_le (by omega)] at ht
    rw [ht]
    exact Ev.now _
  | cons z zs ih =>
    intro i ys h hl ht
    obtain ⟨hi, hz, h', _⟩ := at_drop h
    refine Ev.step (fun k => by rw [laws_toIntS.l0]) (ev_pos (by omega) (ev_pos (by omega) (ev_pos (by omega) ?_)))
    rw [wrap_id (by omega) (by omega), Int.toNat_natCast, rd_get hz]
    exact ih (i + 1) _ h' (by simp [hl]) (by rw [take_set_at (by omega), take_at hz, ht])
theorem toIntS_ev (xs : List Int) (hn : xs.length ≤ 35184372088832) : Ev (fun k => laws_toIntS.f k xs) xs := by
  unfold laws_toIntS.f
  exact ev_pos (by omega) (ev_pos (by omega) (toIntS_l0 xs hn xs 0 _ rfl (by simp) (by simp)))
theorem eqIntS_l0 (xs ys : List Int) (hl : xs.length = ys.length) (hn : xs.length ≤ 9223372036854775807) : ∀ (zs us : List Int) (i : Nat), xs.drop i = zs → ys.drop i = us → Ev (fun k => laws_eqIntS.l0 k xs ys (i : Int)) (decide (zs = us)) := by
  intro zs
  induction zs with
  | nil =>
    intro us i h hu
    have := at_end h
    refine Ev.step (fun k => by rw [laws_eqIntS.l0]) (ev_neg (by omega) ?_)
    rw [List.drop_of_length_le (by omega)] at hu
    subst hu
    exact ev_eq (Ev.now _) (by simp)
  | cons z zs ih =>
    intro us i h hu
    obtain ⟨hi, hz, h', _⟩ := at_drop h
    cases us with
    | nil => have := at_end hu; omega
    | cons u us =>
      obtain ⟨_, hzu, hu', _⟩ := at_drop hu
      refine Ev.step (fun k => by rw [laws_eqIntS.l0]) (ev_pos (by omega) (ev_pos (by omega) (ev_pos (by omega) ?_)))
      rw [wrap_id (by omega) (by omega), rd_get hz, rd_get hzu]
      refine ev_ite (fun e => ev_eq (ih us (i + 1) h' hu') (by simp [e])) (fun e => ev_eq (Ev.now _) (by simp [e]))
theorem eqIntS_ev (xs ys : List Int) (hn : xs.length ≤ 9223372036854775807) : Ev (fun k => laws_eqIntS.f k xs ys) (decide (xs = ys)) := by
  unfold laws_eqIntS.f
  refine ev_ite (fun e => eqIntS_l0 xs ys (by omega) hn xs ys 0 rfl rfl) (fun e => ev_eq (Ev.now _) ?_)
  have : xs ≠ ys := by rintro rfl; exact e rfl
  simp [this]
theorem eqIntS_same (xs : List Int) (hn : xs.length ≤ 9223372036854775807) : Ev (fun k => laws_eqIntS.f k xs xs) true := ev_eq (eqIntS_ev xs xs hn) (by simp)
theorem markIntS_l0 : ∀ (d i : Nat) (xs : List Int) (k0 : Int), i + d = xs.length → 0 ≤ k0 → k0 + d ≤ 9223372036854775807 → xs.length ≤ 9223372036854775807 → Ev (fun k => laws_markIntS.l0 k xs k0 (i : Int)) (k0 + d, xs.take i ++ upFrom k0 d) := by
  intro d
  induction d with
  | zero =>
    intro i xs k0 h _ _ _
    refine Ev.step (fun k => by rw [laws_markIntS.l0]) (ev_neg (by omega) (ev_eq (Ev.now _) ?_))
    rw [List.take_of_length_le (by omega)]
    simp [upFrom]
  | succ d ih =>
    intro i xs k0 h h0 h1 h2
    refine Ev.step (fun k => by rw [laws_markIntS.l0]) (ev_pos (by omega) (ev_pos (by omega) ?_))
    rw [wrap_id (x := (i : Int) + 1) (by omega) (by omega), wrap_id (by omega) (by omega), Int.toNat_natCast]
    refine ev_eq (ih (i + 1) _ (k0 + 1) (by first | (simp; done) | (simp; omega)) (by omega) (by omega) (by simpa using h2)) (Prod.ext (by first | (simp; done) | (simp; omega)) ?_)
    show List.take (i + 1) (xs.set i k0) ++ upFrom (k0 + 1) d = xs.take i ++ upFrom k0 (d + 1)
    rw [take_set_at (by omega), upFrom_succ]
    simp
theorem markIntS_ev (xs : List Int) (k0 : Int) (h0 : 0 ≤ k0) (h1 : k0 + xs.length ≤ 9223372036854775807) : Ev (fun k => laws_markIntS.f k xs k0) (k0 + xs.length, upFrom k0 xs.length) := by
  unfold laws_markIntS.f
  exact ev_eq (markIntS_l0 xs.length 0 xs k0 (by omega) h0 h1 (by omega)) (by simp)
theorem heldIntS_l0 (k1 : Int) (n : Nat) (h0 : 0 ≤ k1) (h1 : k1 + n ≤ 9223372036854775807) : ∀ (d i : Nat), i + d = n → Ev (fun k => laws_heldIntS.l0 k (upFrom k1 n) (k1 + i) (i : Int)) (k1 + n) := by
  intro d
  induction d with
  | zero =>
    intro i h
    refine Ev.step (fun k => by rw [laws_heldIntS.l0]) (ev_neg (by rw [upFrom_length]; omega) ?_)
    exact ev_eq (Ev.now _) (by omega)
  | succ d ih =>
    intro i h
    refine Ev.step (fun k => by rw [laws_heldIntS.l0]) (ev_pos (by rw [upFrom_length]; omega) (ev_pos (by omega) (ev_pos (rd_get (upFrom_get k1 n i (by omega))) ?_)))
    rw [wrap_id (x := (i : Int) + 1) (by omega) (by omega), wrap_id (by omega) (by omega)]
    have := ih (i + 1) (by omega)
    rw [show k1 + ((i + 1 : Nat) : Int) = k1 + i + 1 by omega] at this
    exact this
theorem heldIntS_ev (k1 : Int) (n : Nat) (h0 : 0 ≤ k1) (h1 : k1 + n ≤ 9223372036854775807) : Ev (fun k => laws_heldIntS.f k (upFrom k1 n) k1) (k1 + n) := by
  unfold laws_heldIntS.f
  have := heldIntS_l0 k1 n h0 h1 n 0 (by omega)
  simpa using this
theorem l4Has_l0 (xs : List Int) (x : Int) (hn : xs.length ≤ 9223372036854775807) : ∀ (zs : List Int) (i : Nat), xs.drop i = zs → Ev (fun k => spec_l4Has.l0 k xs x (i : Int)) (decide (x ∈ zs)) := by
  intro zs
  induction zs with
  | nil =>
    intro i h
    have := at_end h
    exact Ev.step (fun k => by rw [spec_l4Has.l0]) (ev_neg (by omega) (ev_eq (Ev.now _) (by simp)))
  | cons z zs ih =>
    intro i h
    obtain ⟨hi, hz, h', _⟩ := at_drop h
    refine Ev.step (fun k => by rw [spec_l4Has.l0]) (ev_pos (by omega) (ev_pos (by omega) ?_))
    rw [wrap_id (by omega) (by omega), rd_get hz]
    exact ev_ite (fun e => ev_eq (Ev.now _) (by simp [e])) (fun e => ev_eq (ih (i + 1) h') (by simp [Ne.symm e]))
theorem l4Has_ev (xs : List Int) (x : Int) (hn : xs.length ≤ 9223372036854775807) : Ev (fun k => spec_l4Has.f k xs x) (decide (x ∈ xs)) := by
  unfold spec_l4Has.f
  exact l4Has_l0 xs x hn xs 0 rfl
theorem indexInt_l0 (xs : List Int) (x : Int) (hn : xs.length ≤ 9223372036854775807) : ∀ (zs : List Int) (i : Nat), xs.drop i = zs → ∃ r : Int, Ev (fun k => slices_Index_int_int.l0 k xs x xs.length (i : Int)) r ∧ (0 ≤ r ↔ x ∈ zs) := by
  intro zs
  induction zs with
  | nil =>
    intro i h
    have := at_end h
    exact ⟨-1, Ev.step (fun k => by rw [slices_Index_int_int.l0]) (ev_neg (by omega) (Ev.now _)), by simp⟩
  | cons z zs ih =>
    intro i h
    obtain ⟨hi, hz, h', _⟩ := at_drop h
    by_cases e : x = z
    · refine ⟨i, Ev.step (fun k => by rw [slices_Index_int_int.l0]) (ev_pos (by omega) (ev_pos (by omega) (ev_pos (by omega) ?_))), by simp [e]⟩
      rw [rd_get hz]
      exact ev_pos e (Ev.now _)
    · obtain ⟨r, hr, hm⟩ := ih (i + 1) h'
      refine ⟨r, Ev.step (fun k => by rw [slices_Index_int_int.l0]) (ev_pos (by omega) (ev_pos (by omega) (ev_pos (by omega) ?_))), by simp [e, hm]⟩
      rw [rd_get hz, wrap_id (by omega) (by omega)]
      exact ev_neg e hr
theorem containsInt_ev (xs : List Int) (x : Int) (hn : xs.length ≤ 9223372036854775807) : Ev (fun k => slices_Contains_int_int.f k xs x) (decide (x ∈ xs)) := by
  unfold slices_Contains_int_int.f slices_Index_int_int.f
  obtain ⟨r, hr, hm⟩ := indexInt_l0 xs x hn xs 0 rfl
  exact Ev.bind hr (ev_eq (Ev.now _) (decide_eq_decide.2 hm))
theorem l1In_eq (x a b : Int) : spec_l1In.f x a b = some (decide (a ≤ x ∧ x ≤ b)) := by
  unfold spec_l1In.f
  by_cases h : a ≤ x <;> simp [h]
theorem inRange_eq (x a b : Int) : impl_InRange.f x a b = some (decide (a ≤ x ∧ x ≤ b)) := by
  unfold impl_InRange.f
  by_cases h : a ≤ x <;> simp [h]

theorem toIntSS_l0 (xs : List (List Int)) (hn : xs.length ≤ 11728124029610) (hi : ∀ y ∈ xs, y.length ≤ 35184372088832) : ∀ (zs : List (List Int)) (i : Nat) (ys : List (List Int)), xs.drop i = zs → ys.length = xs.length → ys.take i = xs.take i → Ev (fun k => laws_toIntSS.l0 k xs ys (i : Int)) xs := by
  intro zs
  induction zs with
  | nil =>
    intro i ys h hl ht
    have := at_end h
    refine Ev.step (fun k => by rw [laws_toIntSS.l0]) ?_
    refine ev_neg (by omega) ?_
    rw [List.take_of_length_le (by omega), List.take_of_length_le (by omega)] at ht
    rw [ht]
    exact Ev.now _
  | cons z zs ih =>
    intro i ys h hl ht
    obtain ⟨hlt, hz, h2, _⟩ := at_drop h
    have hr : rd_L1 xs (i : Int) = z := getD_at hz
    have hm : z ∈ xs := List.mem_of_getElem? hz
    refine Ev.step (fun k => by rw [laws_toIntSS.l0]) ?_
    refine ev_pos (by omega) (ev_pos (by omega) ?_)
    rw [hr]
    refine Ev.bind (toIntS_ev z (hi z hm)) (ev_pos (by omega) ?_)
    rw [wrap_id (by omega) (by omega), Int.toNat_natCast]
    exact ih (i + 1) _ h2 (by simp [hl]) (by rw [take_set_at (by omega), take_at hz, ht])
theorem toIntSS_ev (xs : List (List Int)) (hn : xs.length ≤ 11728124029610) (hi : ∀ y ∈ xs, y.length ≤ 35184372088832) : Ev (fun k => laws_toIntSS.f k xs) xs := by
  unfold laws_toIntSS.f
  exact ev_pos (by omega) (ev_pos (by omega) (toIntSS_l0 xs hn hi xs 0 _ rfl (by simp) (by simp)))
theorem eqIntSS_l0 (xs ys : List (List Int)) (hl : xs.length = ys.length) (hn : xs.length ≤ 9223372036854775807) (hi : ∀ y ∈ xs, y.length ≤ 9223372036854775807) : ∀ (zs us : List (List Int)) (i : Nat), xs.drop i = zs → ys.drop i = us → Ev (fun k => laws_eqIntSS.l0 k xs ys (i : Int)) (decide (zs = us)) := by
  intro zs
  induction zs with
  | nil =>
    intro us i h hu
    have := at_end h
    refine Ev.step (fun k => by rw [laws_eqIntSS.l0]) ?_
    rw [List.drop_of_length_le (by omega)] at hu
    subst hu
    exact ev_neg (by omega) (ev_eq (Ev.now _) (by simp))
  | cons z zs ih =>
    intro us i h hu
    obtain ⟨hlt, hz, h2, _⟩ := at_drop h
    cases us with
    | nil => have := at_end hu; omega
    | cons u us =>
      obtain ⟨_, hzu, hu2, _⟩ := at_drop hu
      have hr : rd_L1 xs (i : Int) = z := getD_at hz
      have hr2 : rd_L1 ys (i : Int) = u := getD_at hzu
      refine Ev.step (fun k => by rw [laws_eqIntSS.l0]) ?_
      refine ev_pos (by omega) (ev_pos (by omega) (ev_pos (by omega) ?_))
      rw [wrap_id (by omega) (by omega), hr, hr2]
      refine Ev.bind (eqIntS_ev z u (hi z (List.mem_of_getElem? hz))) (ev_ite (fun e => ev_eq (ih us (i + 1) h2 hu2) ?_) (fun e => ev_eq (Ev.now _) ?_))
      · simp only [decide_eq_true_eq] at e
        simp [e]
      · simp only [decide_eq_true_eq] at e
        simp [e]
theorem eqIntSS_ev (xs ys : List (List Int)) (hn : xs.length ≤ 9223372036854775807) (hi : ∀ y ∈ xs, y.length ≤ 9223372036854775807) : Ev (fun k => laws_eqIntSS.f k xs ys) (decide (xs = ys)) := by
  unfold laws_eqIntSS.f
  refine ev_ite (fun e => eqIntSS_l0 xs ys (by omega) hn hi xs ys 0 rfl rfl) (fun e => ev_eq (Ev.now _) ?_)
  have : xs ≠ ys := by rintro rfl; exact e rfl
  simp [this]
theorem eqIntSS_same (xs : List (List Int)) (hn : xs.length ≤ 9223372036854775807) (hi : ∀ y ∈ xs, y.length ≤ 9223372036854775807) : Ev (fun k => laws_eqIntSS.f k xs xs) true := ev_eq (eqIntSS_ev xs xs hn hi) (by simp)
theorem szIntS_eq (xs : List Int) (n : Int) (h0 : -9223372036854775808 + xs.length ≤ n) (h1 : n ≤ 9223372036854775807) : laws_szIntS.f xs n = some (if n - xs.length < 0 then -1 else n - xs.length) := by
  unfold laws_szIntS.f
  rw [wrap_id (by omega) (by omega)]
  split <;> rfl
theorem szIntSS_l0 (xs : List (List Int)) (hn : xs.length ≤ 9223372036854775807) (hi : ∀ y ∈ xs, y.length ≤ 9223372036854775807) : ∀ (zs : List (List Int)) (i : Nat) (n : Int), xs.drop i = zs → 0 ≤ n → n ≤ 1048576 → ∃ r, Ev (fun k => laws_szIntSS.l0 k xs n (i : Int)) r ∧ (¬ r < 0 → ∀ y ∈ zs, y.length ≤ 1048576) := by
  intro zs
  induction zs with
  | nil =>
    intro i n h _ _
    have := at_end h
    refine ⟨n, Ev.step (fun k => by rw [laws_szIntSS.l0]) ?_, by simp⟩
    exact ev_neg (by omega) (Ev.now _)
  | cons z zs ih =>
    intro i n h h0 h1
    obtain ⟨hlt, hz, h2, _⟩ := at_drop h
    have hr : rd_L1 xs (i : Int) = z := getD_at hz
    have hm := hi z (List.mem_of_getElem? hz)
    by_cases hs : n - (z.length : Int) < 0
    · refine ⟨-1, Ev.step (fun k => by rw [laws_szIntSS.l0]) ?_, by omega⟩
      refine ev_pos (by omega) (ev_pos (by omega) ?_)
      rw [hr]
      refine ev_bind0 (szIntS_eq z n (by omega) (by omega)) ?_
      rw [if_pos hs]
      exact ev_pos (by omega) (Ev.now _)
    · obtain ⟨r, hev, hall⟩ := ih (i + 1) (n - z.length) h2 (by omega) (by omega)
      refine ⟨r, Ev.step (fun k => by rw [laws_szIntSS.l0]) ?_, fun hr0 y hy => ?_⟩
      · refine ev_pos (by omega) (ev_pos (by omega) ?_)
        rw [hr]
        refine ev_bind0 (szIntS_eq z n (by omega) (by omega)) ?_
        rw [if_neg hs, wrap_id (by omega) (by omega)]
        exact ev_neg (by omega) hev
      · rcases List.mem_cons.1 hy with rfl | hy
        · omega
        · exact hall hr0 y hy
theorem szIntSS_ev (xs : List (List Int)) (hn : xs.length ≤ 9223372036854775807) (hi : ∀ y ∈ xs, y.length ≤ 9223372036854775807) : ∃ r, Ev (fun k => laws_szIntSS.f k xs 1048576) r ∧ (¬ r < 0 → xs.length ≤ 1048576 ∧ ∀ y ∈ xs, y.length ≤ 1048576) := by
  unfold laws_szIntSS.f
  by_cases hs : (1048576 : Int) - xs.length < 0
  · refine ⟨-1, ?_, by omega⟩
    rw [wrap_id (by omega) (by omega)]
    exact ev_pos hs (Ev.now _)
  · obtain ⟨r, hev, hall⟩ := szIntSS_l0 xs hn hi xs 0 (1048576 - xs.length) rfl (by omega) (by omega)
    refine ⟨r, ?_, fun h => ⟨by omega, hall h⟩⟩
    rw [wrap_id (by omega) (by omega)]
    exact ev_neg hs hev

/-- How many numbers lie in rows of rows. -/
def total : List (List Int) → Nat
  | [] => 0
  | y :: ys => y.length + total ys
/-- The rows, marked: from k on, one behind the other. -/
def markRows (k : Int) : List (List Int) → List (List Int)
  | [] => []
  | y :: ys => upFrom k y.length :: markRows (k + y.length) ys
theorem markRows_length : ∀ (ys : List (List Int)) (k : Int), (markRows k ys).length = ys.length
  | [], _ => rfl
  | _ :: ys, _ => by simp [markRows, markRows_length ys]
theorem total_le (B : Nat) : ∀ ys : List (List Int), (∀ y ∈ ys, y.length ≤ B) → total ys ≤ ys.length * B
  | [], _ => by simp [total]
  | y :: ys, h => by
    have h1 := total_le B ys (fun z hz => h z (List.mem_cons_of_mem _ hz))
    have h2 := h y (List.mem_cons_self ..)
    simp only [total, List.length_cons, Nat.succ_mul]
    omega
theorem total_small (ys : List (List Int)) (hn : ys.length ≤ 1048576) (hi : ∀ y ∈ ys, y.length ≤ 1048576) : total ys ≤ 1099511627776 := by
  have h1 := total_le 1048576 ys hi
  omega
theorem markIntSS_l0 : ∀ (zs done : List (List Int)) (i : Nat) (k0 : Int), done.length = i → 0 ≤ k0 → k0 + total zs ≤ 9223372036854775807 → (done ++ zs).length ≤ 9223372036854775806 → Ev (fun k => laws_markIntSS.l0 k (done ++ zs) k0 (i : Int)) (k0 + total zs, done ++ markRows k0 zs) := by
  intro zs
  induction zs with
  | nil =>
    intro done i k0 hl h0 h1 h2
    refine Ev.step (fun k => by rw [laws_markIntSS.l0]) (ev_neg (by first | (simp; done) | (simp; omega)) (ev_eq (Ev.now _) ?_))
    simp [total, markRows]
  | cons y ys ih =>
    intro done i k0 hl h0 h1 h2
    have hlen : (done ++ y :: ys).length = i + 1 + ys.length := by simp; omega
    simp only [total] at h1
    refine Ev.step (fun k => by rw [laws_markIntSS.l0]) (ev_pos (by rw [hlen]; omega) (ev_pos (by omega) ?_))
    have hg : (done ++ y :: ys).getD (i : Int).toNat [] = y := by
      rw [Int.toNat_natCast, List.getD_eq_getElem?_getD, List.getElem?_append_right (by omega), hl, Nat.sub_self]
      rfl
    rw [hg]
    refine Ev.bind (markIntS_ev y k0 h0 (by omega)) ?_
    have hs : (done ++ y :: ys).set (i : Int).toNat (upFrom k0 y.length) = (done ++ [upFrom k0 y.length]) ++ ys := by
      rw [Int.toNat_natCast, List.set_append_right _ _ (by omega), hl, Nat.sub_self]
      simp
    dsimp only
    rw [hs, wrap_id (x := (i : Int) + 1) (by omega) (by omega)]
    refine ev_eq (ih (done ++ [upFrom k0 y.length]) (i + 1) (k0 + y.length) (by first | (simp; done) | (simp; omega)) (by omega) (by omega) (by rw [List.length_append, List.length_cons] at h2; rw [List.length_append, List.length_append, List.length_singleton]; omega)) ?_
    simp only [total, markRows, List.append_assoc, List.singleton_append, Prod.mk.injEq, and_true]
    omega
theorem markIntSS_ev (ys : List (List Int)) (k0 : Int) (h0 : 0 ≤ k0) (h1 : k0 + total ys ≤ 9223372036854775807) (h2 : ys.length ≤ 9223372036854775806) : Ev (fun k => laws_markIntSS.f k ys k0) (k0 + total ys, markRows k0 ys) := by
  unfold laws_markIntSS.f
  simpa using markIntSS_l0 ys [] 0 k0 rfl h0 h1 (by simpa using h2)
theorem markGraph_ev (n : Int) (ys : List (List Int)) (k0 : Int) (h0 : 0 ≤ k0) (h1 : k0 + total ys ≤ 9223372036854775807) (h2 : ys.length ≤ 9223372036854775806) : Ev (fun k => laws_markGraph.f k n ys k0) (k0 + total ys, markRows k0 ys) := by
  unfold laws_markGraph.f
  exact Ev.bind (markIntSS_ev ys k0 h0 h1 h2) (Ev.now _)
theorem heldIntSS_l0 : ∀ (zs done : List (List Int)) (i : Nat) (k0 : Int), done.length = i → 0 ≤ k0 → k0 + total zs ≤ 9223372036854775807 → (done ++ zs).length ≤ 9223372036854775806 → Ev (fun k => laws_heldIntSS.l0 k (done ++ markRows k0 zs) k0 (i : Int)) (k0 + total zs) := by
  intro zs
  induction zs with
  | nil =>
    intro done i k0 hl h0 h1 h2
    refine Ev.step (fun k => by rw [laws_heldIntSS.l0]) (ev_neg (by simp [markRows]; omega) (ev_eq (Ev.now _) ?_))
    simp [total]
  | cons y ys ih =>
    intro done i k0 hl h0 h1 h2
    have hlen : (done ++ markRows k0 (y :: ys)).length = i + 1 + ys.length := by simp [markRows_length]; omega
    have hlen2 : (done ++ y :: ys).length = i + 1 + ys.length := by simp; omega
    simp only [total] at h1
    refine Ev.step (fun k => by rw [laws_heldIntSS.l0]) (ev_pos (by rw [hlen]; omega) (ev_pos (by omega) ?_))
    have hg : rd_L1 (done ++ markRows k0 (y :: ys)) (i : Int) = upFrom k0 y.length := getD_at (by rw [List.getElem?_append_right (by omega), hl, Nat.sub_self]; rfl)
    rw [hg]
    refine Ev.bind (heldIntS_ev k0 y.length h0 (by omega)) (ev_neg (by omega) ?_)
    rw [wrap_id (x := (i : Int) + 1) (by omega) (by omega), show done ++ markRows k0 (y :: ys) = (done ++ [upFrom k0 y.length]) ++ markRows (k0 + y.length) ys by simp [markRows]]
    refine ev_eq (ih (done ++ [upFrom k0 y.length]) (i + 1) (k0 + y.length) (by first | (simp; done) | (simp; omega)) (by omega) (by omega) (by rw [List.length_append, List.length_cons] at h2; rw [List.length_append, List.length_append, List.length_singleton]; omega)) ?_
    simp only [total]
    omega
theorem heldIntSS_ev (ys : List (List Int)) (k0 : Int) (h0 : 0 ≤ k0) (h1 : k0 + total ys ≤ 9223372036854775807) (h2 : ys.length ≤ 9223372036854775806) : Ev (fun k => laws_heldIntSS.f k (markRows k0 ys) k0) (k0 + total ys) := by
  unfold laws_heldIntSS.f
  simpa using heldIntSS_l0 ys [] 0 k0 rfl h0 h1 (by simpa using h2)
theorem heldGraph_ev (n : Int) (ys : List (List Int)) (k0 : Int) (h0 : 0 ≤ k0) (h1 : k0 + total ys ≤ 9223372036854775807) (h2 : ys.length ≤ 9223372036854775806) : Ev (fun k => laws_heldGraph.f k n (markRows k0 ys) k0) (k0 + total ys) := by
  unfold laws_heldGraph.f
  exact Ev.bind (heldIntSS_ev ys k0 h0 h1 h2) (ev_neg (by omega) (Ev.now _))

theorem szGraph_ev (n : Int) (xs : List (List Int)) (hn : xs.length ≤ 9223372036854775807) (hi : ∀ y ∈ xs, y.length ≤ 9223372036854775807) : ∃ r, Ev (fun k => laws_szGraph.f k n xs 1048576) r ∧ (¬ r < 0 → xs.length ≤ 1048576 ∧ ∀ y ∈ xs, y.length ≤ 1048576) := by
  obtain ⟨r, hr, hok⟩ := szIntSS_ev xs hn hi
  unfold laws_szGraph.f
  by_cases h : r < 0
  · exact ⟨-1, Ev.bind hr (ev_pos h (Ev.now _)), by omega⟩
  · exact ⟨r, Ev.bind hr (ev_neg h (Ev.now _)), hok⟩
theorem toGraph_ev (n : Int) (xs : List (List Int)) (hn : xs.length ≤ 1048576) (hi : ∀ y ∈ xs, y.length ≤ 1048576) : Ev (fun k => laws_toGraph.f k n xs) (n, xs) := by
  unfold laws_toGraph.f
  exact Ev.bind (toIntSS_ev xs (by omega) (fun y hy => Nat.le_trans (hi y hy) (by decide))) (Ev.now _)
theorem eqGraph_same (n : Int) (xs : List (List Int)) (hn : xs.length ≤ 1048576) (hi : ∀ y ∈ xs, y.length ≤ 1048576) : Ev (fun k => laws_eqGraph.f k n xs n xs) true := by
  unfold laws_eqGraph.f
  exact ev_pos rfl (Ev.bind (eqIntSS_same xs (by omega) (fun y hy => Nat.le_trans (hi y hy) (by decide))) (ev_pos rfl (Ev.now _)))
def rowOk (h : Int) (r : List Int) : Bool := decide (r.length = 2 ∧ 0 ≤ rd r 0 ∧ rd r 0 ≤ h ∧ 0 ≤ rd r 1 ∧ rd r 1 ≤ h)
def lexLt (p r : List Int) : Bool := decide (rd p 0 < rd r 0 ∨ rd p 0 = rd r 0 ∧ rd p 1 < rd r 1)
def rowsOk (h : Int) : Option (List Int) → List (List Int) → Bool
  | _, [] => true
  | p, r :: rs => rowOk h r && ((match p with | none => true | some q => lexLt q r) && rowsOk h (some r) rs)
def isGraph (n : Int) (rs : List (List Int)) : Bool := decide (0 ≤ n ∧ n ≤ 10) && rowsOk (wrap64 (n - 1)) none rs
theorem isGraph_spec_l0 (n : Int) (xs : List (List Int)) (hn : xs.length ≤ 4611686018427387904) : ∀ (zs : List (List Int)) (i : Nat) (p : Option (List Int)), xs.drop i = zs → (i = 0 ∧ p = none ∨ ∃ q, p = some q ∧ 0 < i ∧ xs[i - 1]? = some q ∧ q.length = 2) → Ev (fun k => spec_IsGraph.l0 k (i : Int) n xs) (rowsOk (wrap64 (n - 1)) p zs && decide (0 ≤ n ∧ n ≤ 10)) := by
  intro zs
  induction zs with
  | nil =>
    intro i p h _
    have := at_end h
    refine Ev.step (fun k => by rw [spec_IsGraph.l0]) ?_
    refine ev_neg (by omega) (ev_bind0 (l1In_eq _ _ _) (ev_eq (Ev.now _) ?_))
    simp [rowsOk]
  | cons z zs ih =>
    intro i p h hp
    obtain ⟨hlt, hz, h2, _⟩ := at_drop h
    have hr : rd_L1 xs (i : Int) = z := getD_at hz
    refine Ev.step (fun k => by rw [spec_IsGraph.l0]) ?_
    refine ev_pos (by omega) (ev_pos (by omega) ?_)
    rw [hr]
    have bad : rowOk (wrap64 (n - 1)) z = false → Ev (fun k => spec_IsGraph.j1 k (i : Int) z true n xs) (rowsOk (wrap64 (n - 1)) p (z :: zs) && decide (0 ≤ n ∧ n ≤ 10)) := by
      intro hb
      refine Ev.step (fun k => by rw [spec_IsGraph.j1]) (ev_pos rfl (ev_eq (Ev.now _) ?_))
      simp [rowsOk, hb]
    refine ev_ite (fun e1 => ev_pos (by omega) (ev_bind0 (l1In_eq _ _ _) (ev_ite (fun e2 => ev_pos (by omega) (ev_bind0 (l1In_eq _ _ _) ?_)) (fun e2 => bad ?_)))) (fun e1 => bad ?_)
    · have e2 := of_decide_eq_true e2
      by_cases e3 : 0 ≤ rd z 1 ∧ rd z 1 ≤ wrap64 (n - 1)
      · have hok : rowOk (wrap64 (n - 1)) z = true := decide_eq_true ⟨by omega, e2.1, e2.2, e3.1, e3.2⟩
        have hl2 : z.length = 2 := by omega
        have ih2 := ih (i + 1) (some z) h2 (.inr ⟨z, rfl, by omega, hz, hl2⟩)
        rw [decide_eq_true e3]
        refine Ev.step (fun k => by rw [spec_IsGraph.j1]) (ev_neg (by decide) ?_)
        rw [wrap_id (x := (i : Int) + 1) (by omega) (by omega)]
        rcases hp with ⟨hi0, rfl⟩ | ⟨q, rfl, hi0, hq, hq2⟩
        · refine ev_neg (by omega) (ev_eq ih2 ?_)
          simp [rowsOk, hok]
        · have hr2 : rd_L1 xs ((i : Int) - 1) = q := by
            rw [show (i : Int) - 1 = ((i - 1 : Nat) : Int) by omega]
            exact getD_at hq
          rw [wrap_id (x := (i : Int) - 1) (by omega) (by omega), hr2]
          refine ev_pos (by omega) (ev_pos (by omega) (ev_pos (by omega) (ev_pos (by omega) (ev_pos (by omega) ?_))))
          refine ev_ite (fun e4 => ev_eq (Ev.now _) ?_) (fun e4 => ev_ite (fun e5 => ev_pos (by omega) (ev_pos (by omega) (ev_ite (fun e6 => ev_eq (Ev.now _) ?_) (fun e6 => ev_eq ih2 ?_)))) (fun e5 => ev_eq ih2 ?_))
          · have : lexLt q z = false := decide_eq_false (by omega)
            simp [rowsOk, this]
          · have : lexLt q z = false := decide_eq_false (by omega)
            simp [rowsOk, this]
          · have : lexLt q z = true := decide_eq_true (by omega)
            simp [rowsOk, this, hok]
          · have : lexLt q z = true := decide_eq_true (by omega)
            simp [rowsOk, this, hok]
      · rw [decide_eq_false e3]
        exact bad (decide_eq_false (by rintro ⟨_, _, _, h4, h5⟩; exact e3 ⟨h4, h5⟩))
    · have e2 : ¬ _ := fun h => e2 (decide_eq_true h)
      exact decide_eq_false (by rintro ⟨_, h2, h3, _⟩; exact e2 ⟨h2, h3⟩)
    · exact decide_eq_false (by rintro ⟨h1, _⟩; omega)
theorem isGraph_specB (n : Int) (xs : List (List Int)) (hn : xs.length ≤ 4611686018427387904) : Ev (fun k => spec_IsGraph.f k n xs) (isGraph n xs) := by
  unfold spec_IsGraph.f
  refine ev_eq (isGraph_spec_l0 n xs hn xs 0 none rfl (.inl ⟨rfl, rfl⟩)) ?_
  unfold isGraph
  exact Bool.and_comm _ _
theorem isGraph_spec (n : Int) (xs : List (List Int)) (hn : xs.length ≤ 1048576) : Ev (fun k => spec_IsGraph.f k n xs) (isGraph n xs) := isGraph_specB n xs (by omega)
theorem isGraph_n {n : Int} {xs : List (List Int)} (h : isGraph n xs = true) : 0 ≤ n ∧ n ≤ 10 := by
  unfold isGraph at h
  exact of_decide_eq_true (Bool.and_eq_true_iff.1 h).1
theorem rowsOk_mem {h : Int} : ∀ (rs : List (List Int)) (p : Option (List Int)), rowsOk h p rs = true → ∀ r ∈ rs, rowOk h r = true := by
  intro rs
  induction rs with
  | nil => intro p _ r hr; exact absurd hr (by simp)
  | cons a rs ih =>
    intro p hp r hr
    unfold rowsOk at hp
    simp only [Bool.and_eq_true] at hp
    rcases List.mem_cons.1 hr with rfl | hr
    · exact hp.1
    · exact ih (some a) hp.2.2 r hr
theorem isGraph_row {n : Int} {xs : List (List Int)} (h : isGraph n xs = true) {r : List Int} (hr : r ∈ xs) : r.length = 2 ∧ 0 ≤ rd r 0 ∧ rd r 0 ≤ n - 1 ∧ 0 ≤ rd r 1 ∧ rd r 1 ≤ n - 1 := by
  have hn := isGraph_n h
  unfold isGraph at h
  have := of_decide_eq_true (rowsOk_mem xs none (Bool.and_eq_true_iff.1 h).2 r hr)
  rw [wrap_id (by omega) (by omega)] at this
  exact this
theorem compare2 (a b c d : Int) : Ev (fun k => slices_Compare_int_int.f k [a, b] [c, d]) (if a < c then -1 else if a > c then 1 else if b < d then -1 else if b > d then 1 else 0) := by
  have hc : ∀ x y : Int, cmp_Compare_int.f x y = some (if x < y then -1 else if x > y then 1 else 0) := by
    intro x y
    unfold cmp_Compare_int.f cmp_isNaN_int.f
    simp only [bne_self_eq_false, Option.bind_some, Bool.false_eq_true, if_false]
    split
    · rfl
    · split <;> rfl
  have hl : ∀ x y : Int, (([x, y] : List Int).length : Int) = 2 := fun _ _ => rfl
  unfold slices_Compare_int_int.f
  refine Ev.step (fun k => by rw [slices_Compare_int_int.l0]) ?_
  rw [hl, hl]
  refine ev_pos (by omega) (ev_pos (by omega) (ev_pos (by omega) (ev_neg (by omega) (ev_pos (by omega) (ev_bind0 (hc _ _) ?_)))))
  rw [show rd [a, b] 0 = a from rfl, show rd [c, d] 0 = c from rfl]
  by_cases h1 : a < c
  · rw [if_pos h1, if_pos h1]
    exact ev_neg (by omega) (Ev.now _)
  · rw [if_neg h1, if_neg h1]
    by_cases h2 : a > c
    · rw [if_pos h2, if_pos h2]
      exact ev_neg (by omega) (Ev.now _)
    · rw [if_neg h2, if_neg h2]
      refine ev_pos rfl ?_
      rw [wrap_id (x := 0 + 1) (by omega) (by omega)]
      refine Ev.step (fun k => by rw [slices_Compare_int_int.l0]) ?_
      rw [hl, hl]
      refine ev_pos (by omega) (ev_pos (by omega) (ev_pos (by omega) (ev_neg (by omega) (ev_pos (by omega) (ev_bind0 (hc _ _) ?_)))))
      rw [show rd [a, b] (0 + 1) = b from rfl, show rd [c, d] (0 + 1) = d from rfl]
      by_cases h3 : b < d
      · rw [if_pos h3]
        exact ev_neg (by omega) (Ev.now _)
      · rw [if_neg h3]
        by_cases h4 : b > d
        · rw [if_pos h4]
          exact ev_neg (by omega) (Ev.now _)
        · rw [if_neg h4]
          refine ev_pos rfl ?_
          rw [wrap_id (x := 0 + 1 + 1) (by omega) (by omega)]
          refine Ev.step (fun k => by rw [slices_Compare_int_int.l0]) ?_
          rw [hl, hl]
          exact ev_neg (by omega) (ev_neg (by omega) (Ev.now _))
theorem two_of {r : List Int} (h : r.length = 2) : r = [rd r 0, rd r 1] := by
  match r, h with
  | [a, b], _ => rfl
theorem compare_rows (q z : List Int) (hq : q.length = 2) (hz : z.length = 2) : ∃ c : Int, Ev (fun k => slices_Compare_int_int.f k q z) c ∧ (c ≥ 0 ↔ lexLt q z = false) := by
  refine ⟨_, by rw [two_of hq, two_of hz]; exact compare2 _ _ _ _, ?_⟩
  unfold lexLt
  rw [decide_eq_false_iff_not]
  generalize rd q 0 = a
  generalize rd q 1 = b
  generalize rd z 0 = c
  generalize rd z 1 = d
  split
  · omega
  · split
    · omega
    · split
      · omega
      · split <;> omega
theorem isClaim_eq (n : Int) (xs : List (List Int)) (a : Int) : impl_isClaim.f n xs a = some (decide (0 ≤ a ∧ a ≤ wrap64 (n - 1))) := by
  unfold impl_isClaim.f
  rw [inRange_eq]
  rfl
theorem isGraph_impl_l0 (n : Int) (xs : List (List Int)) (hn : xs.length ≤ 4611686018427387904) : ∀ (zs : List (List Int)) (i : Nat) (p : Option (List Int)), xs.drop i = zs → (i = 0 ∧ p = none ∨ ∃ q, p = some q ∧ 0 < i ∧ xs[i - 1]? = some q ∧ q.length = 2) → Ev (fun k => impl_IsGraph.l0 k xs xs.length (i : Int) n xs) (rowsOk (wrap64 (n - 1)) p zs) := by
  intro zs
  induction zs with
  | nil =>
    intro i p h _
    have := at_end h
    refine Ev.step (fun k => by rw [impl_IsGraph.l0]) ?_
    exact ev_neg (by omega) (Ev.now _)
  | cons z zs ih =>
    intro i p h hp
    obtain ⟨hlt, hz, h2, _⟩ := at_drop h
    have hr : rd_L1 xs (i : Int) = z := getD_at hz
    refine Ev.step (fun k => by rw [impl_IsGraph.l0]) ?_
    refine ev_pos (by omega) (ev_pos (by omega) (ev_pos (by omega) ?_))
    rw [hr]
    have bad : rowOk (wrap64 (n - 1)) z = false → false = rowsOk (wrap64 (n - 1)) p (z :: zs) := by
      intro hb
      simp [rowsOk, hb]
    refine ev_ite (fun e1 => ev_pos (by omega) (ev_bind0 (isClaim_eq _ _ _) (ev_ite (fun e2 => ev_pos (by omega) (ev_bind0 (isClaim_eq _ _ _) (ev_ite (fun e3 => ?_) (fun e3 => ev_eq (Ev.now _) (bad ?_))))) (fun e2 => ev_eq (Ev.now _) (bad ?_))))) (fun e1 => ev_eq (Ev.now _) (bad ?_))
    · have e2 := of_decide_eq_true e2
      have e3 := of_decide_eq_true e3
      have hok : rowOk (wrap64 (n - 1)) z = true := decide_eq_true ⟨by omega, e2.1, e2.2, e3.1, e3.2⟩
      have hl2 : z.length = 2 := by omega
      have ih2 := ih (i + 1) (some z) h2 (.inr ⟨z, rfl, by omega, hz, hl2⟩)
      rw [wrap_id (x := (i : Int) + 1) (by omega) (by omega)]
      rcases hp with ⟨hi0, rfl⟩ | ⟨q, rfl, hi0, hq, hq2⟩
      · refine ev_neg (by omega) (ev_eq ih2 ?_)
        simp [rowsOk, hok]
      · have hr2 : rd_L1 xs ((i : Int) - 1) = q := by
          rw [show (i : Int) - 1 = ((i - 1 : Nat) : Int) by omega]
          exact getD_at hq
        rw [wrap_id (x := (i : Int) - 1) (by omega) (by omega), hr2]
        obtain ⟨c, hc, hc2⟩ := compare_rows q z hq2 hl2
        refine ev_pos (by omega) (ev_pos (by omega) (ev_pos (by omega) (Ev.bind hc (ev_ite (fun e4 => ev_eq (Ev.now _) ?_) (fun e4 => ev_eq ih2 ?_)))))
        · have := hc2.1 e4
          simp [rowsOk, this]
        · have : lexLt q z = true := by
            cases hl : lexLt q z with
            | true => rfl
            | false => exact absurd (hc2.2 hl) e4
          simp [rowsOk, this, hok]
    · have e3 : ¬ _ := fun h => e3 (decide_eq_true h)
      exact decide_eq_false (by rintro ⟨_, _, _, h4, h5⟩; exact e3 ⟨h4, h5⟩)
    · have e2 : ¬ _ := fun h => e2 (decide_eq_true h)
      exact decide_eq_false (by rintro ⟨_, h2, h3, _⟩; exact e2 ⟨h2, h3⟩)
    · exact decide_eq_false (by rintro ⟨h1, _⟩; omega)
theorem isGraph_implB (n : Int) (xs : List (List Int)) (hn : xs.length ≤ 4611686018427387904) : Ev (fun k => impl_IsGraph.f k n xs) (isGraph n xs) := by
  unfold impl_IsGraph.f isGraph
  refine ev_bind0 (inRange_eq _ _ _) (ev_ite (fun e => ?_) (fun e => ev_eq (Ev.now _) ?_))
  · rw [e, Bool.true_and]
    exact isGraph_impl_l0 n xs hn xs 0 none rfl (.inl ⟨rfl, rfl⟩)
  · rw [show decide (0 ≤ n ∧ n ≤ 10) = false by simpa using e, Bool.false_and]
theorem isGraph_impl (n : Int) (xs : List (List Int)) (hn : xs.length ≤ 1048576) : Ev (fun k => impl_IsGraph.f k n xs) (isGraph n xs) := isGraph_implB n xs (by omega)
theorem copyG_l0 (n : Int) (xs : List (List Int)) (hn : xs.length ≤ 1048576) (hi : ∀ y ∈ xs, y.length ≤ 1048576) : ∀ (zs : List (List Int)) (i : Nat) (m : Int) (acc : List (List Int)), xs.drop i = zs → acc.length = i → Ev (fun k => spec_l4Copy.l0 k (i : Int) n xs m acc) (m, acc ++ zs) := by
  intro zs
  induction zs with
  | nil =>
    intro i m acc h hl
    have := at_end h
    refine Ev.step (fun k => by rw [spec_l4Copy.l0]) ?_
    exact ev_neg (by omega) (ev_eq (Ev.now _) (by simp))
  | cons z zs ih =>
    intro i m acc h hl
    obtain ⟨hlt, hz, h2, _⟩ := at_drop h
    have hr : rd_L1 xs (i : Int) = z := getD_at hz
    have hm := hi z (List.mem_of_getElem? hz)
    refine Ev.step (fun k => by rw [spec_l4Copy.l0]) ?_
    refine ev_pos (by omega) (ev_bind0 (a := ([] : List Int)) rfl (ev_pos (by omega) ?_))
    rw [hr, wrap_id (x := (i : Int) + 1) (by omega) (by omega)]
    refine ev_pos (by simp only [List.length_nil]; omega) (ev_pos (by omega) ?_)
    refine ev_eq (ih (i + 1) m (acc ++ [[] ++ z]) h2 (by first | (simp; done) | (simp; omega))) (by simp)
theorem copyG_ev (n : Int) (xs : List (List Int)) (hn : xs.length ≤ 1048576) (hi : ∀ y ∈ xs, y.length ≤ 1048576) : Ev (fun k => spec_l4Copy.f k n xs) (n, xs) := by
  unfold spec_l4Copy.f
  simpa using copyG_l0 n xs hn hi xs 0 n [] rfl rfl
theorem cloneI_eq (xs : List Int) (h : xs.length ≤ 1048576) : slices_Clone_int_int.f xs = some xs := by
  unfold slices_Clone_int_int.f
  rw [Option.bind_some, if_pos (by simp only [List.length_nil]; omega)]
  rfl
theorem cloneG_l0 (n : Int) (xs : List (List Int)) (hn : xs.length ≤ 1048576) (hi : ∀ y ∈ xs, y.length ≤ 1048576) : ∀ (zs : List (List Int)) (i : Nat) (m : Int) (acc : List (List Int)), xs.drop i = zs → acc.length = i → Ev (fun k => impl_cloneGraph.l0 k xs (xs.length : Int) (i : Int) m acc) (m, acc ++ zs) := by
  intro zs
  induction zs with
  | nil =>
    intro i m acc h hl
    have := at_end h
    refine Ev.step (fun k => by rw [impl_cloneGraph.l0]) ?_
    exact ev_neg (by omega) (ev_eq (Ev.now _) (by simp))
  | cons z zs ih =>
    intro i m acc h hl
    obtain ⟨hlt, hz, h2, _⟩ := at_drop h
    have hr : rd_L1 xs (i : Int) = z := getD_at hz
    have hm := hi z (List.mem_of_getElem? hz)
    refine Ev.step (fun k => by rw [impl_cloneGraph.l0]) ?_
    refine ev_pos (by omega) (ev_pos (by omega) (ev_pos (by omega) ?_))
    rw [hr, wrap_id (x := (i : Int) + 1) (by omega) (by omega)]
    refine ev_bind0 (cloneI_eq z hm) (ev_pos (by omega) ?_)
    refine ev_eq (ih (i + 1) m (acc ++ [z]) h2 (by first | (simp; done) | (simp; omega))) (by simp)
theorem cloneG_ev (n : Int) (xs : List (List Int)) (hn : xs.length ≤ 1048576) (hi : ∀ y ∈ xs, y.length ≤ 1048576) : Ev (fun k => impl_cloneGraph.f k n xs) (n, xs) := by
  unfold impl_cloneGraph.f
  simpa using cloneG_l0 n xs hn hi xs 0 n [] rfl rfl
def inR (n a : Int) : Bool := decide (0 ≤ a ∧ a ≤ wrap64 (n - 1))
theorem eqGraph_sameB (n : Int) (xs : List (List Int)) (hn : xs.length ≤ 9223372036854775807) (hi : ∀ y ∈ xs, y.length ≤ 9223372036854775807) : Ev (fun k => laws_eqGraph.f k n xs n xs) true := by
  unfold laws_eqGraph.f
  exact ev_pos rfl (Ev.bind (eqIntSS_same xs hn hi) (ev_pos rfl (Ev.now _)))
theorem two {r : List Int} (h : r.length = 2) : r = [rd r 0, rd r 1] := by
  match r, h with
  | [a, b], _ => rfl
theorem lexLt_trans {a b c : List Int} (h1 : lexLt a b = true) (h2 : lexLt b c = true) : lexLt a c = true := by
  unfold lexLt at h1 h2 ⊢
  rw [decide_eq_true_eq] at h1 h2 ⊢
  omega
theorem lexLt_irrefl (a : List Int) : ¬ lexLt a a = true := by
  unfold lexLt
  rw [decide_eq_true_eq]
  omega
theorem rowsOk_parts {h : Int} : ∀ (rs : List (List Int)) (q : Option (List Int)), rowsOk h q rs = true → rs.Pairwise (fun a b => lexLt a b = true) ∧ ∀ x, q = some x → ∀ r ∈ rs, lexLt x r = true := by
  intro rs
  induction rs with
  | nil => exact fun q _ => ⟨List.Pairwise.nil, fun _ _ r hr => absurd hr (by simp)⟩
  | cons z zs ih =>
    intro q hq
    unfold rowsOk at hq
    rw [Bool.and_eq_true, Bool.and_eq_true] at hq
    obtain ⟨_, h2, h3⟩ := hq
    obtain ⟨i1, i2⟩ := ih _ h3
    refine ⟨List.pairwise_cons.2 ⟨i2 z rfl, i1⟩, fun x hx r hr => ?_⟩
    subst hx
    rcases List.mem_cons.1 hr with rfl | hr
    · exact h2
    · exact lexLt_trans h2 (i2 z rfl r hr)
theorem rowsOk_mk {h : Int} : ∀ (rs : List (List Int)) (q : Option (List Int)), (∀ r ∈ rs, rowOk h r = true) → rs.Pairwise (fun a b => lexLt a b = true) → (∀ x, q = some x → ∀ r ∈ rs, lexLt x r = true) → rowsOk h q rs = true := by
  intro rs
  induction rs with
  | nil => exact fun q _ _ _ => by unfold rowsOk; rfl
  | cons z zs ih =>
    intro q h1 h2 h3
    obtain ⟨p1, p2⟩ := List.pairwise_cons.1 h2
    unfold rowsOk
    rw [Bool.and_eq_true, Bool.and_eq_true]
    refine ⟨h1 z List.mem_cons_self, ?_, ih (some z) (fun r hr => h1 r (List.mem_cons_of_mem _ hr)) p2 (fun x hx r hr => by obtain rfl := Option.some.inj hx; exact p1 r hr)⟩
    cases q with
    | none => rfl
    | some x => exact h3 x rfl z List.mem_cons_self
def insR (p : List Int) : List (List Int) → List (List Int)
  | [] => [p]
  | z :: zs => if lexLt p z = true then p :: z :: zs else z :: insR p zs
theorem insR_perm (p : List Int) : ∀ zs : List (List Int), (insR p zs).Perm (p :: zs) := by
  intro zs
  induction zs with
  | nil => exact List.Perm.refl _
  | cons z zs ih =>
    unfold insR
    split
    · exact List.Perm.refl _
    · exact (List.Perm.cons z ih).trans (List.Perm.swap p z zs)
theorem lexLt_other {p z : List Int} (hp : p.length = 2) (hz : z.length = 2) (hne : z ≠ p) (h : ¬ lexLt p z = true) : lexLt z p = true := by
  unfold lexLt at h ⊢
  rw [decide_eq_true_eq] at h ⊢
  by_cases e : rd z 0 = rd p 0 ∧ rd z 1 = rd p 1
  · refine absurd ?_ hne
    rw [two_of hp, two_of hz, e.1, e.2]
  · omega
theorem insR_up (p : List Int) (hp : p.length = 2) : ∀ zs : List (List Int), zs.Pairwise (fun a b => lexLt a b = true) → (∀ z ∈ zs, z.length = 2 ∧ z ≠ p) → (insR p zs).Pairwise (fun a b => lexLt a b = true) := by
  intro zs
  induction zs with
  | nil => exact fun _ _ => List.pairwise_singleton _ _
  | cons z zs ih =>
    intro h1 h2
    obtain ⟨p1, p2⟩ := List.pairwise_cons.1 h1
    obtain ⟨z1, z2⟩ := h2 z List.mem_cons_self
    unfold insR
    split
    · rename_i e
      refine List.pairwise_cons.2 ⟨fun r hr => ?_, h1⟩
      rcases List.mem_cons.1 hr with rfl | hr
      · exact e
      · exact lexLt_trans e (p1 r hr)
    · rename_i e
      refine List.pairwise_cons.2 ⟨fun r hr => ?_, ih p2 (fun x hx => h2 x (List.mem_cons_of_mem _ hx))⟩
      rcases List.mem_cons.1 ((insR_perm p zs).mem_iff.1 hr) with rfl | hr
      · exact lexLt_other hp z1 z2 e
      · exact p1 r hr
theorem lt_pair (a b c d : Int) : ([a, b] : List Int) < [c, d] ↔ a < c ∨ a = c ∧ b < d := by
  rw [List.cons_lt_cons_iff, List.cons_lt_cons_iff]
  simp
theorem lexLt_lt {a b : List Int} (ha : a.length = 2) (hb : b.length = 2) : a < b ↔ lexLt a b = true := by
  unfold lexLt
  rw [decide_eq_true_eq, ← lt_pair, ← two_of ha, ← two_of hb]
theorem cmpR_pair (a b c d : Int) : cmpR [a, b] [c, d] = if a < c then -1 else if a > c then 1 else if b < d then -1 else if b > d then 1 else 0 := by
  unfold cmpR
  simp only [lt_pair]
  by_cases h1 : a < c
  · rw [if_pos (.inl h1), if_pos h1]
  · rw [if_neg h1]
    by_cases h2 : a > c
    · rw [if_neg (by omega), if_pos (by omega), if_pos h2]
    · rw [if_neg h2]
      by_cases h3 : b < d
      · rw [if_pos (by omega), if_pos h3]
      · rw [if_neg h3, if_neg (by omega)]
        by_cases h4 : b > d
        · rw [if_pos (by omega), if_pos h4]
        · rw [if_neg (by omega), if_neg h4]
theorem ev_all {α : Type} {β : Type} (g : Nat → α → Option β) (c : α → β) : ∀ l : List α, (∀ x ∈ l, Ev (fun k => g k x) (c x)) → ∃ K, ∀ k, K ≤ k → ∀ x ∈ l, g k x = some (c x) := by
  intro l
  induction l with
  | nil => exact fun _ => ⟨0, fun _ _ x hx => absurd hx (by simp)⟩
  | cons z zs ih =>
    intro h
    obtain ⟨K1, h1⟩ := h z List.mem_cons_self
    obtain ⟨K2, h2⟩ := ih (fun x hx => h x (List.mem_cons_of_mem _ hx))
    refine ⟨max K1 K2, fun k hk x hx => ?_⟩
    rcases List.mem_cons.1 hx with rfl | hx
    · exact h1 k (by omega)
    · exact h2 k (by omega) x hx
theorem cmpAll_ev (M : List (List Int)) (h2 : ∀ r ∈ M, r.length = 2) : ∃ K, ∀ k, K ≤ k → ∀ x ∈ M, ∀ y ∈ M, slices_Compare_int_int.f k x y = some (cmpR x y) := by
  have h1 : ∀ x ∈ M, ∃ K, ∀ k, K ≤ k → ∀ y ∈ M, slices_Compare_int_int.f k x y = some (cmpR x y) := fun x hx => ev_all (fun k y => slices_Compare_int_int.f k x y) (fun y => cmpR x y) M (fun y hy => by
    have := compare2 (rd x 0) (rd x 1) (rd y 0) (rd y 1)
    rw [← cmpR_pair, ← two_of (h2 x hx), ← two_of (h2 y hy)] at this
    exact this)
  have h3 : ∀ l : List (List Int), (∀ x ∈ l, x ∈ M) → ∃ K, ∀ k, K ≤ k → ∀ x ∈ l, ∀ y ∈ M, slices_Compare_int_int.f k x y = some (cmpR x y) := by
    intro l
    induction l with
    | nil => exact fun _ => ⟨0, fun _ _ x hx => absurd hx (by simp)⟩
    | cons z zs ih =>
      intro hl
      obtain ⟨K1, e1⟩ := h1 z (hl z List.mem_cons_self)
      obtain ⟨K2, e2⟩ := ih (fun x hx => hl x (List.mem_cons_of_mem _ hx))
      refine ⟨max K1 K2, fun k hk x hx => ?_⟩
      rcases List.mem_cons.1 hx with rfl | hx
      · exact e1 k (by omega)
      · exact e2 k (by omega) x hx
  exact h3 M (fun _ h => h)
/-- What goes up and holds the same rows is the sorted row. -/
theorem up_sorted (T M : List (List Int)) (hT : T.Pairwise (fun a b => lexLt a b = true)) (h2 : ∀ r ∈ M, r.length = 2) (hp : T.Perm M) : T = sortR M := by
  have h1 : T.Perm (sortR M) := hp.trans (List.mergeSort_perm M _).symm
  refine List.Perm.eq_of_pairwise (le := fun x y => ¬ y < x) ?_ ?_ ?_ h1
  · intro a b _ _ hab hba
    exact List.le_antisymm hab hba
  · refine List.Pairwise.imp_of_mem (fun {a b} ha hb h => ?_) hT
    have la := h2 a (hp.mem_iff.1 ha)
    have lb := h2 b (hp.mem_iff.1 hb)
    intro hba
    exact lexLt_irrefl a (lexLt_trans h ((lexLt_lt lb la).1 hba))
  · have := List.pairwise_mergeSort (le := fun x y : List Int => decide (¬ y < x)) (fun a b c h1 h2 => by
      rw [decide_eq_true_eq] at h1 h2 ⊢
      exact List.le_trans h1 h2) (fun a b => by
      rw [Bool.or_eq_true, decide_eq_true_eq, decide_eq_true_eq]
      exact List.le_total a b) M
    exact List.Pairwise.imp (fun {a b} h => of_decide_eq_true h) this
def renRow (cs : List Int) (r : List Int) : List Int := [rd cs (rd r 0), rd cs (rd r 1)]
def renOk (n : Int) (xs : List (List Int)) (cs : List Int) : Prop := isGraph n xs = true ∧ (cs.length : Int) = n ∧ cs.all (inR n) = true ∧ cs.Nodup
instance (n : Int) (xs : List (List Int)) (cs : List Int) : Decidable (renOk n xs cs) := by unfold renOk; infer_instance
def renG (n : Int) (xs : List (List Int)) (cs : List Int) : Int × List (List Int) × Bool := if renOk n xs cs then (n, sortR (xs.map (renRow cs)), true) else (n, xs, false)
theorem renG_size (n : Int) (xs : List (List Int)) (cs : List Int) (hn : xs.length ≤ 1048576) (hi : ∀ y ∈ xs, y.length ≤ 1048576) : (renG n xs cs).2.1.length ≤ 1048576 ∧ ∀ y ∈ (renG n xs cs).2.1, y.length ≤ 1048576 := by
  unfold renG
  split
  · refine ⟨?_, fun y hy => ?_⟩
    · show (sortR (xs.map (renRow cs))).length ≤ 1048576
      rw [sortR_len, List.length_map]
      exact hn
    · have hy : y ∈ sortR (xs.map (renRow cs)) := hy
      have := (List.mergeSort_perm (xs.map (renRow cs)) _).mem_iff.1 hy
      obtain ⟨a, _, rfl⟩ := List.mem_map.1 this
      show 2 ≤ 1048576
      omega
  · exact ⟨hn, hi⟩
theorem rd_inj {cs : List Int} (hd : cs.Nodup) {a b : Int} (a0 : 0 ≤ a) (a1 : a < cs.length) (b0 : 0 ≤ b) (b1 : b < cs.length) (h : rd cs a = rd cs b) : a = b := by
  obtain ⟨i, rfl⟩ : ∃ i : Nat, a = (i : Int) := ⟨a.toNat, by omega⟩
  obtain ⟨j, rfl⟩ : ∃ j : Nat, b = (j : Int) := ⟨b.toNat, by omega⟩
  rw [rd_nat cs i (by omega), rd_nat cs j (by omega)] at h
  have hp := List.pairwise_iff_getElem.1 hd
  rcases Nat.lt_trichotomy i j with hl | rfl | hl
  · exact absurd h (hp i j (by omega) (by omega) hl)
  · rfl
  · exact absurd h.symm (hp j i (by omega) (by omega) hl)
theorem renRow_inj {n : Int} {xs : List (List Int)} {cs : List Int} (hg : isGraph n xs = true) (hc : (cs.length : Int) = n) (hd : cs.Nodup) {r s : List Int} (hr : r ∈ xs) (hs : s ∈ xs) (h : renRow cs r = renRow cs s) : r = s := by
  obtain ⟨r1, r2, r3, r4, r5⟩ := isGraph_row hg hr
  obtain ⟨s1, s2, s3, s4, s5⟩ := isGraph_row hg hs
  unfold renRow at h
  injection h with h1 h2
  injection h2 with h2 _
  rw [two_of r1, two_of s1, rd_inj hd r2 (by omega) s2 (by omega) h1, rd_inj hd r4 (by omega) s4 (by omega) h2]
theorem rd_inR {n : Int} {cs : List Int} (hall : cs.all (inR n) = true) {a : Int} (a0 : 0 ≤ a) (a1 : a < cs.length) : inR n (rd cs a) = true := by
  obtain ⟨i, rfl⟩ : ∃ i : Nat, a = (i : Int) := ⟨a.toNat, by omega⟩
  rw [rd_nat cs i (by omega)]
  exact List.all_eq_true.1 hall _ (List.getElem_mem _)
theorem graph_nodup {n : Int} {xs : List (List Int)} (hg : isGraph n xs = true) : xs.Pairwise (fun a b => lexLt a b = true) := by
  unfold isGraph at hg
  exact (rowsOk_parts xs none (Bool.and_eq_true_iff.1 hg).2).1
/-- One more pair in its place. -/
theorem graph_ins {n : Int} {T : List (List Int)} (hg : isGraph n T = true) {x y : Int} (hx : inR n x = true) (hy : inR n y = true) (hne : [x, y] ∉ T) : isGraph n (insR [x, y] T) = true := by
  have hn := isGraph_n hg
  have hx := of_decide_eq_true hx
  have hy := of_decide_eq_true hy
  have hrow : ∀ r ∈ T, rowOk (wrap64 (n - 1)) r = true := by
    have h := hg
    unfold isGraph at h
    exact rowsOk_mem T none (Bool.and_eq_true_iff.1 h).2
  unfold isGraph
  rw [Bool.and_eq_true, decide_eq_true_eq]
  refine ⟨hn, rowsOk_mk _ none (fun r hr => ?_) (insR_up [x, y] rfl T (graph_nodup hg) (fun z hz => ⟨(isGraph_row hg hz).1, fun e => hne (e ▸ hz)⟩)) (fun x hx => by cases hx)⟩
  rcases List.mem_cons.1 ((insR_perm [x, y] T).mem_iff.1 hr) with rfl | hr
  · exact decide_eq_true ⟨rfl, hx.1, hx.2, hy.1, hy.2⟩
  · exact hrow r hr
theorem addS_done (n x y : Int) (S T : List (List Int)) (hg : isGraph n S = true) (hn : S.length ≤ 1048576) (R : Int × List (List Int) × Bool) (hR : Ev (fun k => spec_AddAttack.j2 k n S n T) R) : ∀ (zs : List (List Int)) (i : Nat) (acc : List (List Int)), S.drop i = zs → acc.length ≤ i + 1 → acc ++ zs = T → Ev (fun k => spec_AddAttack.l0 k x y true (i : Int) n S n acc) R := by
  intro zs
  induction zs with
  | nil =>
    intro i acc h hl he
    have := at_end h
    rw [List.append_nil] at he
    subst he
    refine Ev.step (fun k => by rw [spec_AddAttack.l0]) (ev_neg (by omega) (Ev.step (fun k => by rw [spec_AddAttack.j1]) ?_))
    exact ev_neg (by decide) (ev_pos rfl hR)
  | cons z zs ih =>
    intro i acc h hl he
    obtain ⟨hlt, hz, h2, _⟩ := at_drop h
    have hr : rd_L1 S (i : Int) = z := getD_at hz
    have hlen := (isGraph_row hg (List.mem_of_getElem? hz)).1
    refine Ev.step (fun k => by rw [spec_AddAttack.l0]) (ev_pos (by omega) (Ev.bind (isGraph_spec n S hn) ?_))
    rw [hg]
    refine Ev.step (fun k => by rw [spec_AddAttack.j1]) (ev_pos rfl (ev_pos (by omega) (ev_pos (by omega) (ev_pos rfl (ev_bind0 (a := ([] : List Int)) rfl ?_)))))
    rw [hr, wrap_id (by omega) (by omega)]
    refine ev_pos (by simp only [List.length_nil]; omega) (ev_pos (by omega) ?_)
    exact ih (i + 1) (acc ++ [[] ++ z]) h2 (by rw [List.length_append, List.length_singleton]; omega) (by rw [List.nil_append, List.append_assoc]; exact he)
theorem addS_l0 (n x y : Int) (S : List (List Int)) (hg : isGraph n S = true) (hn : S.length ≤ 1048576) (R : Int × List (List Int) × Bool) (hR : Ev (fun k => spec_AddAttack.j2 k n S n (insR [x, y] S)) R) : ∀ (zs : List (List Int)) (i : Nat) (acc : List (List Int)), S.drop i = zs → acc.length ≤ i → acc ++ insR [x, y] zs = insR [x, y] S → Ev (fun k => spec_AddAttack.l0 k x y false (i : Int) n S n acc) R := by
  intro zs
  induction zs with
  | nil =>
    intro i acc h hl he
    have := at_end h
    refine Ev.step (fun k => by rw [spec_AddAttack.l0]) (ev_neg (by omega) (Ev.step (fun k => by rw [spec_AddAttack.j1]) ?_))
    refine ev_neg (by decide) (ev_neg (by decide) ?_)
    have hla : acc.length ≤ 1048577 := by
      have h3 := congrArg List.length he
      rw [List.length_append, (insR_perm [x, y] S).length_eq, List.length_cons] at h3
      omega
    refine ev_pos (by omega) ?_
    rw [show acc ++ [[x, y]] = insR [x, y] S from he]
    exact hR
  | cons z zs ih =>
    intro i acc h hl he
    obtain ⟨hlt, hz, h2, _⟩ := at_drop h
    have hr : rd_L1 S (i : Int) = z := getD_at hz
    have hlen := (isGraph_row hg (List.mem_of_getElem? hz)).1
    refine Ev.step (fun k => by rw [spec_AddAttack.l0]) (ev_pos (by omega) (Ev.bind (isGraph_spec n S hn) ?_))
    rw [hg]
    refine Ev.step (fun k => by rw [spec_AddAttack.j1]) (ev_pos rfl (ev_pos (by omega) (ev_pos (by omega) (ev_neg (by decide) ?_))))
    rw [hr, wrap_id (by omega) (by omega)]
    have before : lexLt [x, y] z = true → Ev (fun k => (some (acc ++ [[x, y]]) : Option (List (List Int))).bind fun u => (some ([] : List Int)).bind fun v => if v.length + z.length < 17592186044416 then (if u.length < 5864062014805 then spec_AddAttack.l0 k x y true ((i : Int) + 1) n S n (u ++ [v ++ z]) else none) else none) R := by
      intro e
      refine ev_bind0 rfl (ev_bind0 rfl (ev_pos (by simp only [List.length_nil]; omega) (ev_pos (by rw [List.length_append, List.length_singleton]; omega) ?_)))
      refine addS_done n x y S (insR [x, y] S) hg hn R hR zs (i + 1) _ h2 (by rw [List.length_append, List.length_append, List.length_singleton, List.length_singleton]; omega) ?_
      rw [← he]
      unfold insR
      rw [if_pos e, List.nil_append, List.append_assoc, List.append_assoc]
      rfl
    have behind : ¬ lexLt [x, y] z = true → Ev (fun k => (some ([] : List Int)).bind fun v => if v.length + z.length < 17592186044416 then (if acc.length < 5864062014805 then spec_AddAttack.l0 k x y false ((i : Int) + 1) n S n (acc ++ [v ++ z]) else none) else none) R := by
      intro e
      refine ev_bind0 rfl (ev_pos (by simp only [List.length_nil]; omega) (ev_pos (by omega) ?_))
      refine ih (i + 1) _ h2 (by rw [List.length_append, List.length_singleton]; omega) ?_
      rw [← he, List.nil_append, List.append_assoc]
      conv => rhs; unfold insR
      rw [if_neg e]
      rfl
    have hlx : lexLt [x, y] z = true ↔ x < rd z 0 ∨ x = rd z 0 ∧ y < rd z 1 := by
      unfold lexLt
      rw [decide_eq_true_eq]
      exact Iff.rfl
    refine ev_pos (by omega) (ev_ite (fun e1 => ev_pos (by omega) (before (hlx.2 (by omega)))) (fun e1 => ev_ite (fun e2 => ev_pos (by omega) (ev_ite (fun e3 => ev_pos (by omega) (before (hlx.2 (by omega)))) (fun e3 => behind (fun e => ?_)))) (fun e2 => behind (fun e => ?_))))
    · have := hlx.1 e; omega
    · have := hlx.1 e; omega
theorem addAttack_ev (n x y : Int) (S : List (List Int)) (hg : isGraph n S = true) (hn : S.length < 1048576) (hx : inR n x = true) (hy : inR n y = true) (hne : [x, y] ∉ S) : Ev (fun k => spec_AddAttack.f k n S x y) (n, insR [x, y] S, true) := by
  unfold spec_AddAttack.f
  refine addS_l0 n x y S hg (by omega) _ ?_ S 0 [] rfl (Nat.le_refl _) rfl
  have hl : (insR [x, y] S).length ≤ 1048576 := by rw [(insR_perm [x, y] S).length_eq, List.length_cons]; omega
  have h2 := graph_ins hg hx hy hne
  refine Ev.step (fun k => by rw [spec_AddAttack.j2]) (Ev.bind (isGraph_spec n S (by omega)) (ev_pos hg (Ev.bind (isGraph_spec n _ hl) (ev_pos h2 (Ev.now _)))))
theorem renS_l1 (n : Int) (xs : List (List Int)) (cs : List Int) (hok : renOk n xs cs) (hn : xs.length ≤ 1048576) : ∀ (zs : List (List Int)) (i : Nat) (T : List (List Int)), xs.drop i = zs → i ≤ xs.length → isGraph n T = true → T.Perm ((xs.take i).map (renRow cs)) → Ev (fun k => spec_Renamed.l1 k cs (i : Int) n xs n T) (n, sortR (xs.map (renRow cs)), true) := by
  obtain ⟨hg, hc, hall, hd⟩ := hok
  intro zs
  induction zs with
  | nil =>
    intro i T h hi hT hp
    have := at_end h
    rw [List.take_of_length_le (by omega)] at hp
    refine Ev.step (fun k => by rw [spec_Renamed.l1]) (ev_neg (by omega) (ev_eq (Ev.now _) ?_))
    rw [up_sorted T _ (graph_nodup hT) (fun r hr => by obtain ⟨a, _, rfl⟩ := List.mem_map.1 hr; rfl) hp]
  | cons z zs ih =>
    intro i T h hi hT hp
    obtain ⟨hlt, hz, h2, _⟩ := at_drop h
    have hr : rd_L1 xs (i : Int) = z := getD_at hz
    have hzm := List.mem_of_getElem? hz
    obtain ⟨z1, z2, z3, z4, z5⟩ := isGraph_row hg hzm
    refine Ev.step (fun k => by rw [spec_Renamed.l1]) ?_
    rw [hr, wrap_id (by omega) (by omega)]
    have hTl : T.length = i := by rw [hp.length_eq, List.length_map, List.length_take]; omega
    have hne : [rd cs (rd z 0), rd cs (rd z 1)] ∉ T := by
      intro hm
      have hm := hp.mem_iff.1 hm
      obtain ⟨r, hr1, hr2⟩ := List.mem_map.1 hm
      have hrz : r = z := renRow_inj hg hc hd (List.mem_of_mem_take hr1) hzm hr2
      subst hrz
      have hpw := graph_nodup hg
      rw [← List.take_append_drop i xs, List.pairwise_append] at hpw
      exact lexLt_irrefl r (hpw.2.2 r hr1 r (by rw [h]; exact List.mem_cons_self))
    have hx := rd_inR hall z2 (by omega : rd z 0 < cs.length)
    have hy := rd_inR hall z4 (by omega : rd z 1 < cs.length)
    refine ev_pos (by omega) (ev_pos (by omega) (ev_pos (by omega) (ev_pos (by omega) (ev_pos (by omega) (ev_pos (by omega) (ev_pos (by omega) (ev_pos (by omega) (Ev.bind (addAttack_ev n _ _ T hT (by omega) hx hy hne) ?_))))))))
    refine ih (i + 1) _ h2 (by omega) (graph_ins hT hx hy hne) ?_
    refine (insR_perm _ T).trans ?_
    rw [take_at hz, List.map_append]
    exact (List.Perm.cons _ hp).trans (List.perm_append_comm (l₁ := [renRow cs z]))
theorem renS_l0 (n : Int) (xs : List (List Int)) (cs : List Int) (hg : isGraph n xs = true) (hc : (cs.length : Int) = n) (hn : xs.length ≤ 1048576) (hi : ∀ y ∈ xs, y.length ≤ 1048576) : ∀ (zs : List Int) (i : Nat), cs.drop i = zs → i ≤ cs.length → (cs.take i).all (inR n) = true → (cs.take i).Nodup → Ev (fun k => spec_Renamed.l0 k cs (i : Int) n xs) (renG n xs cs) := by
  have hb := isGraph_n hg
  intro zs
  induction zs with
  | nil =>
    intro i h hle ha hd
    have := at_end h
    rw [List.take_of_length_le (by omega)] at ha hd
    refine Ev.step (fun k => by rw [spec_Renamed.l0]) (ev_neg (by omega) ?_)
    refine ev_eq (renS_l1 n xs cs ⟨hg, hc, ha, hd⟩ hn xs 0 [] rfl (by omega) ?_ (by rw [List.take_zero, List.map_nil])) ?_
    · unfold isGraph rowsOk
      rw [Bool.and_true]
      exact decide_eq_true hb
    · unfold renG
      rw [if_pos ⟨hg, hc, ha, hd⟩]
  | cons z zs ih =>
    intro i h hle ha hd
    obtain ⟨hlt, hz, h2, _⟩ := at_drop h
    have hr : rd cs (i : Int) = z := rd_get hz
    have hzm := List.mem_of_getElem? hz
    have hcp := copyG_ev n xs hn hi
    refine Ev.step (fun k => by rw [spec_Renamed.l0]) (ev_pos (by omega) (ev_pos (by omega) ?_))
    rw [hr, wrap_id (x := (i : Int) + 1) (by omega) (by omega), Int.toNat_natCast]
    refine ev_bind0 (l1In_eq _ _ _) (ev_ite (fun e => ev_pos (by omega) (Ev.bind (l4Has_ev (cs.take i) z (by rw [List.length_take]; omega)) (ev_ite (fun e2 => Ev.bind hcp (ev_eq (Ev.now _) ?_)) (fun e2 => ih (i + 1) h2 (by omega) ?_ ?_)))) (fun e => Ev.bind hcp (ev_eq (Ev.now _) ?_)))
    · unfold renG
      rw [if_neg]
      rintro ⟨_, _, _, hd2⟩
      rw [← List.take_append_drop i cs, List.nodup_append] at hd2
      exact hd2.2.2 z (of_decide_eq_true e2) z (by rw [h]; exact List.mem_cons_self) rfl
    · rw [take_at hz, List.all_append, ha]
      simpa [inR] using e
    · rw [take_at hz, List.nodup_append]
      refine ⟨hd, by simp, fun a ha2 b hb2 hab => ?_⟩
      rw [List.mem_singleton] at hb2
      subst hb2
      subst hab
      exact e2 (decide_eq_true ha2)
    · unfold renG
      rw [if_neg]
      rintro ⟨_, _, hal, _⟩
      exact e (List.all_eq_true.1 hal z hzm)
theorem renamed_spec (n : Int) (xs : List (List Int)) (cs : List Int) (hn : xs.length ≤ 1048576) (hi : ∀ y ∈ xs, y.length ≤ 1048576) (ha : cs.length ≤ 1048576) : Ev (fun k => spec_Renamed.f k n xs cs) (renG n xs cs) := by
  have out : ¬ renOk n xs cs → Ev (fun k => spec_Renamed.j0 k cs true n xs) (renG n xs cs) := by
    intro h
    refine Ev.step (fun k => by rw [spec_Renamed.j0]) (ev_pos rfl (Ev.bind (copyG_ev n xs hn hi) (ev_eq (Ev.now _) ?_)))
    unfold renG
    rw [if_neg h]
  unfold spec_Renamed.f
  refine Ev.bind (isGraph_spec n xs hn) (ev_ite (fun e => ?_) (fun e => out (fun h => e h.1)))
  by_cases hc : (cs.length : Int) = n
  · rw [show ((cs.length : Int) != n) = false by simpa using hc]
    refine Ev.step (fun k => by rw [spec_Renamed.j0]) (ev_neg (by decide) ?_)
    exact renS_l0 n xs cs e hc hn hi cs 0 rfl (by omega) (by simp) (by simp)
  · rw [show ((cs.length : Int) != n) = true by simpa using hc]
    exact out (fun h => hc h.2.1)
theorem renI_l1 (n : Int) (xs : List (List Int)) (cs : List Int) (hok : renOk n xs cs) (hn : xs.length ≤ 1048576) : ∀ (zs : List (List Int)) (i : Nat) (acc : List (List Int)), xs.drop i = zs → i ≤ xs.length → acc = (xs.take i).map (renRow cs) → Ev (fun k => impl_Renamed.l1 k cs xs (xs.length : Int) (i : Int) n acc) (n, sortR (xs.map (renRow cs)), true) := by
  obtain ⟨hg, hc, hall, hd⟩ := hok
  intro zs
  induction zs with
  | nil =>
    intro i acc h hi hacc
    have := at_end h
    rw [List.take_of_length_le (by omega)] at hacc
    subst hacc
    obtain ⟨K, hK⟩ := cmpAll_ev (xs.map (renRow cs)) (fun r hr => by obtain ⟨a, _, rfl⟩ := List.mem_map.1 hr; rfl)
    refine Ev.step (fun k => by rw [impl_Renamed.l1]) (ev_neg (by omega) ?_)
    refine Ev.bind (a := sortR (xs.map (renRow cs))) ⟨K, fun k hk => ?_⟩ (Ev.now _)
    unfold slices_SortFunc_int_int.f
    exact if_pos ⟨rfl, by rw [List.length_map]; omega, hK k hk⟩
  | cons z zs ih =>
    intro i acc h hi hacc
    obtain ⟨hlt, hz, h2, _⟩ := at_drop h
    have hr : rd_L1 xs (i : Int) = z := getD_at hz
    have hzm := List.mem_of_getElem? hz
    obtain ⟨z1, z2, z3, z4, z5⟩ := isGraph_row hg hzm
    have hal : acc.length = i := by rw [hacc, List.length_map, List.length_take]; omega
    refine Ev.step (fun k => by rw [impl_Renamed.l1]) ?_
    rw [hr, wrap_id (by omega) (by omega)]
    refine ev_pos (by omega) (ev_pos (by omega) (ev_pos (by omega) (ev_pos (by omega) (ev_pos (by omega) (ev_pos (by omega) (ev_pos (by omega) (ev_pos (by omega) (ev_pos (by omega) (ev_pos (by omega) ?_)))))))))
    refine ih (i + 1) _ h2 (by omega) ?_
    rw [take_at hz, List.map_append, hacc]
    rfl
theorem renI_l0 (n : Int) (xs : List (List Int)) (cs : List Int) (hg : isGraph n xs = true) (hc : (cs.length : Int) = n) (hn : xs.length ≤ 1048576) (hi : ∀ y ∈ xs, y.length ≤ 1048576) : ∀ (zs : List Int) (i : Nat), cs.drop i = zs → i ≤ cs.length → (cs.take i).all (inR n) = true → (cs.take i).Nodup → Ev (fun k => impl_Renamed.l0 k cs cs (cs.length : Int) (i : Int) n xs) (renG n xs cs) := by
  have hb := isGraph_n hg
  intro zs
  induction zs with
  | nil =>
    intro i h hle ha hd
    have := at_end h
    rw [List.take_of_length_le (by omega)] at ha hd
    refine Ev.step (fun k => by rw [impl_Renamed.l0]) (ev_neg (by omega) ?_)
    refine ev_eq (renI_l1 n xs cs ⟨hg, hc, ha, hd⟩ hn xs 0 [] rfl (by omega) (by rw [List.take_zero, List.map_nil])) ?_
    unfold renG
    rw [if_pos ⟨hg, hc, ha, hd⟩]
  | cons z zs ih =>
    intro i h hle ha hd
    obtain ⟨hlt, hz, h2, _⟩ := at_drop h
    have hr : rd cs (i : Int) = z := rd_get hz
    have hzm := List.mem_of_getElem? hz
    have hcp := cloneG_ev n xs hn hi
    refine Ev.step (fun k => by rw [impl_Renamed.l0]) (ev_pos (by omega) (ev_pos (by omega) (ev_pos (by omega) ?_)))
    rw [hr, wrap_id (x := (i : Int) + 1) (by omega) (by omega), Int.toNat_natCast]
    refine ev_bind0 (isClaim_eq _ _ _) (ev_ite (fun e => ev_pos (by omega) (Ev.bind (containsInt_ev (cs.take i) z (by rw [List.length_take]; omega)) (ev_ite (fun e2 => Ev.bind hcp (ev_eq (Ev.now _) ?_)) (fun e2 => ih (i + 1) h2 (by omega) ?_ ?_)))) (fun e => Ev.bind hcp (ev_eq (Ev.now _) ?_)))
    · unfold renG
      rw [if_neg]
      rintro ⟨_, _, _, hd2⟩
      rw [← List.take_append_drop i cs, List.nodup_append] at hd2
      exact hd2.2.2 z (of_decide_eq_true e2) z (by rw [h]; exact List.mem_cons_self) rfl
    · rw [take_at hz, List.all_append, ha]
      simpa [inR] using e
    · rw [take_at hz, List.nodup_append]
      refine ⟨hd, by simp, fun a ha2 b hb2 hab => ?_⟩
      rw [List.mem_singleton] at hb2
      subst hb2
      subst hab
      exact e2 (decide_eq_true ha2)
    · unfold renG
      rw [if_neg]
      rintro ⟨_, _, hal, _⟩
      exact e (List.all_eq_true.1 hal z hzm)
theorem renamed_impl (n : Int) (xs : List (List Int)) (cs : List Int) (hn : xs.length ≤ 1048576) (hi : ∀ y ∈ xs, y.length ≤ 1048576) (ha : cs.length ≤ 1048576) : Ev (fun k => impl_Renamed.f k n xs cs) (renG n xs cs) := by
  have out : ¬ renOk n xs cs → Ev (fun k => impl_Renamed.j0 k cs true n xs) (renG n xs cs) := by
    intro h
    refine Ev.step (fun k => by rw [impl_Renamed.j0]) (ev_pos rfl (Ev.bind (cloneG_ev n xs hn hi) (ev_eq (Ev.now _) ?_)))
    unfold renG
    rw [if_neg h]
  unfold impl_Renamed.f
  refine Ev.bind (isGraph_impl n xs hn) (ev_ite (fun e => ?_) (fun e => out (fun h => e h.1)))
  by_cases hc : (cs.length : Int) = n
  · rw [show ((cs.length : Int) != n) = false by simpa using hc]
    refine Ev.step (fun k => by rw [impl_Renamed.j0]) (ev_neg (by decide) ?_)
    exact renI_l0 n xs cs e hc hn hi cs 0 rfl (by omega) (by simp) (by simp)
  · rw [show ((cs.length : Int) != n) = true by simpa using hc]
    exact out (fun h => hc h.2.1)

theorem FnExactRenamed (a0_0 : Int) (g0_0 : (Lit.int .i64 a0_0).wf = true) (l0_1 : List (List (Int))) (g0_1 : l0_1.length ≤ 9223372036854775807 ∧ ∀ y ∈ l0_1, y.length ≤ 9223372036854775807 ∧ ∀ z ∈ y, (Lit.int .i64 z).wf = true) (l1 : List Int) (g1 : l1.length ≤ 9223372036854775807 ∧ ∀ y ∈ l1, (Lit.int .i64 y).wf = true) : ∃ k, laws_FnExactRenamed.f k a0_0 l0_1 l1 = some true := by
  refine Ev.rounds (g := fun k => laws_FnExactRenamed.f k a0_0 l0_1 l1) ?_
  unfold laws_FnExactRenamed.f
  refine ev_ite (fun _ => Ev.now _) (fun hm => ?_)
  obtain ⟨r, hr, hok⟩ := szGraph_ev a0_0 l0_1 g0_1.1 (fun y hy => (g0_1.2 y hy).1)
  refine Ev.bind hr (ev_ite (fun _ => Ev.now _) (fun h0 => ?_))
  obtain ⟨hn, hi⟩ := hok h0
  have hs := renamed_spec a0_0 l0_1 l1 hn hi (by omega)
  have hp := renamed_impl a0_0 l0_1 l1 hn hi (by omega)
  obtain ⟨hwn, hwi⟩ := renG_size a0_0 l0_1 l1 hn hi
  have ht := total_small l0_1 hn hi
  have hT := toIntS_ev l1 (by omega)
  have hG := toGraph_ev a0_0 l0_1 hn hi
  generalize renG a0_0 l0_1 l1 = W at hs hp hwn hwi
  obtain ⟨m, rs, fl⟩ := W
  dsimp only at hwn hwi
  have hwt := total_le 1048576 rs hwi
  have hwt2 : total rs ≤ 2199023255552 := by omega
  have hE := eqGraph_sameB m rs (by omega) (fun y hy => Nat.le_trans (hwi y hy) (by omega))
  refine Ev.bind hG (Ev.bind hT ?_)
  dsimp only
  refine Ev.bind hs ?_
  dsimp only
  refine Ev.bind hG (Ev.bind hT ?_)
  dsimp only
  refine Ev.bind hp ?_
  dsimp only
  refine Ev.bind hE (ev_pos rfl ?_)
  refine Ev.step (fun k => by rw [laws_FnExactRenamed.j0]) ?_
  refine ev_neg (by simp) (Ev.bind hG ?_)
  dsimp only
  refine Ev.bind (eqGraph_same _ _ hn hi) (ev_pos rfl (Ev.bind hT (Ev.bind (eqIntS_same _ (by omega)) (ev_pos rfl ?_))))
  refine Ev.bind (markGraph_ev a0_0 l0_1 1 (by omega) (by omega) (by omega)) ?_
  dsimp only
  refine Ev.bind (markIntS_ev l1 _ (by omega) (by omega)) ?_
  dsimp only
  refine ev_neg (by omega) (Ev.bind hE (ev_pos rfl ?_))
  refine Ev.step (fun k => by rw [laws_FnExactRenamed.j1]) ?_
  refine ev_neg (by simp) (Ev.bind (markGraph_ev m rs 1 (by omega) (by omega) (by omega)) ?_)
  dsimp only
  refine Ev.bind (heldGraph_ev m rs 1 (by omega) (by omega) (by omega)) (ev_neg (by omega) (ev_pos rfl ?_))
  refine Ev.bind hG (Ev.bind hT ?_)
  dsimp only
  refine Ev.bind hp ?_
  dsimp only
  refine Ev.bind hE (ev_pos rfl ?_)
  refine Ev.step (fun k => by rw [laws_FnExactRenamed.j2]) ?_
  exact ev_neg (by simp) (Ev.bind (heldGraph_ev m rs 1 (by omega) (by omega) (by omega)) (ev_neg (by omega) (ev_pos rfl (Ev.now _))))

end Go.Proofs.Ytdlobolnajcfnaa.Pure
