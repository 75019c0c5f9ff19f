/- The plain statement of the law FnExactTakeBack, for all numbers and lists. -/
import Derived.Test.YtlbecibchkamjaaPFnExactTakeBackx0
import Derived.Test.YtlbecibchkamjaaPFnExactTakeBackx1
import Derived.Test.YtlbecibchkamjaaPFnExactTakeBackx2
import Derived.Test.YtlbecibchkamjaaPFnExactTakeBackx3
import Derived.Test.YtlbecibchkamjaaPFnExactTakeBackx4
import Derived.Test.YtlbecibchkamjaaPFnExactTakeBackx5
import Derived.Test.YtlbecibchkamjaaBase
set_option linter.unusedVariables false
set_option linter.unusedSimpArgs false
namespace Go.Proofs.Ytlbecibchkamjaa.Pure
open Go.RowKit Go.Proofs.Ytlbecibchkamjaa.PFnExactTakeBack Go.Proofs.YtlbecibchkamjaaW.PrintWords Go.Proofs.YtlbecibchkamjaaW.PrintLast Go.Proofs.YtlbecibchkamjaaW.PrintMore Go.Proofs.Ytlbecibchkamjaa.Base
theorem toIntS_l0 (xs : List Int) (hn : xs.length ≤ 35184372088832) : ∀ (zs : List Int) (i : Nat) (ys : List Int), xs.drop i = zs → ys.length = xs.length → ys.take i = xs.take i → Ev (fun k => laws_toIntS.l0 k xs ys (i : Int)) xs := by
  intro zs
  induction zs with
  | nil =>
    intro i ys h hl ht
    have := at_end h
    refine Ev.step (fun k => by rw [laws_toIntS.l0]) (ev_neg (by omega) ?_)
    rw [List.take_of_length_le (by omega), List.take_of_length_le (by omega)] at ht
    rw [ht]
    exact Ev.now _
  | cons z zs ih =>
    intro i ys h hl ht
    obtain ⟨hi, hz, h', _⟩ := at_drop h
    refine Ev.step (fun k => by rw [laws_toIntS.l0]) (ev_pos (by omega) (ev_pos (by omega) (ev_pos (by omega) ?_)))
    rw [wrap_id (by omega) (by omega), Int.toNat_natCast, rd_get hz]
    exact ih (i + 1) _ h' (by simp [hl]) (by rw [take_set_at (by omega), take_at hz, ht])
theorem toIntS_ev (xs : List Int) (hn : xs.length ≤ 35184372088832) : Ev (fun k => laws_toIntS.f k xs) xs := by
  unfold laws_toIntS.f
  exact ev_pos (by omega) (ev_pos (by omega) (toIntS_l0 xs hn xs 0 _ rfl (by simp) (by simp)))
theorem eqIntS_l0 (xs ys : List Int) (hl : xs.length = ys.length) (hn : xs.length ≤ 9223372036854775807) : ∀ (zs us : List Int) (i : Nat), xs.drop i = zs → ys.drop i = us → Ev (fun k => laws_eqIntS.l0 k xs ys (i : Int)) (decide (zs = us)) := by
  intro zs
  induction zs with
  | nil =>
    intro us i h hu
    have := at_end h
    refine Ev.step (fun k => by rw [laws_eqIntS.l0]) (ev_neg (by omega) ?_)
    rw [List.drop_of_length_le (by omega)] at hu
    subst hu
    exact ev_eq (Ev.now _) (by simp)
  | cons z zs ih =>
    intro us i h hu
    obtain ⟨hi, hz, h', _⟩ := at_drop h
    cases us with
    | nil => have := at_end hu; omega
    | cons u us =>
      obtain ⟨_, hzu, hu', _⟩ := at_drop hu
      refine Ev.step (fun k => by rw [laws_eqIntS.l0]) (ev_pos (by omega) (ev_pos (by omega) (ev_pos (by omega) ?_)))
      rw [wrap_id (by omega) (by omega), rd_get hz, rd_get hzu]
      refine ev_ite (fun e => ev_eq (ih us (i + 1) h' hu') (by simp [e])) (fun e => ev_eq (Ev.now _) (by simp [e]))
theorem eqIntS_ev (xs ys : List Int) (hn : xs.length ≤ 9223372036854775807) : Ev (fun k => laws_eqIntS.f k xs ys) (decide (xs = ys)) := by
  unfold laws_eqIntS.f
  refine ev_ite (fun e => eqIntS_l0 xs ys (by omega) hn xs ys 0 rfl rfl) (fun e => ev_eq (Ev.now _) ?_)
  have : xs ≠ ys := by rintro rfl; exact e rfl
  simp [this]
theorem eqIntS_same (xs : List Int) (hn : xs.length ≤ 9223372036854775807) : Ev (fun k => laws_eqIntS.f k xs xs) true := ev_eq (eqIntS_ev xs xs hn) (by simp)
theorem markIntS_l0 : ∀ (d i : Nat) (xs : List Int) (k0 : Int), i + d = xs.length → 0 ≤ k0 → k0 + d ≤ 9223372036854775807 → xs.length ≤ 9223372036854775807 → Ev (fun k => laws_markIntS.l0 k xs k0 (i : Int)) (k0 + d, xs.take i ++ upFrom k0 d) := by
  intro d
  induction d with
  | zero =>
    intro i xs k0 h _ _ _
    refine Ev.step (fun k => by rw [laws_markIntS.l0]) (ev_neg (by omega) (ev_eq (Ev.now _) ?_))
    rw [List.take_of_length_le (by omega)]
    simp [upFrom]
  | succ d ih =>
    intro i xs k0 h h0 h1 h2
    refine Ev.step (fun k => by rw [laws_markIntS.l0]) (ev_pos (by omega) (ev_pos (by omega) ?_))
    rw [wrap_id (x := (i : Int) + 1) (by omega) (by omega), wrap_id (by omega) (by omega), Int.toNat_natCast]
    refine ev_eq (ih (i + 1) _ (k0 + 1) (by first | (simp; done) | (simp; omega)) (by omega) (by omega) (by simpa using h2)) (Prod.ext (by first | (simp; done) | (simp; omega)) ?_)
    show List.take (i + 1) (xs.set i k0) ++ upFrom (k0 + 1) d = xs.take i ++ upFrom k0 (d + 1)
    rw [take_set_at (by omega), upFrom_succ]
    simp
theorem markIntS_ev (xs : List Int) (k0 : Int) (h0 : 0 ≤ k0) (h1 : k0 + xs.length ≤ 9223372036854775807) : Ev (fun k => laws_markIntS.f k xs k0) (k0 + xs.length, upFrom k0 xs.length) := by
  unfold laws_markIntS.f
  exact ev_eq (markIntS_l0 xs.length 0 xs k0 (by omega) h0 h1 (by omega)) (by simp)
theorem heldIntS_l0 (k1 : Int) (n : Nat) (h0 : 0 ≤ k1) (h1 : k1 + n ≤ 9223372036854775807) : ∀ (d i : Nat), i + d = n → Ev (fun k => laws_heldIntS.l0 k (upFrom k1 n) (k1 + i) (i : Int)) (k1 + n) := by
  intro d
  induction d with
  | zero =>
    intro i h
    refine Ev.step (fun k => by rw [laws_heldIntS.l0]) (ev_neg (by rw [upFrom_length]; omega) ?_)
    exact ev_eq (Ev.now _) (by omega)
  | succ d ih =>
    intro i h
    refine Ev.step (fun k => by rw [laws_heldIntS.l0]) (ev_pos (by rw [upFrom_length]; omega) (ev_pos (by omega) (ev_pos (rd_get (upFrom_get k1 n i (by omega))) ?_)))
    rw [wrap_id (x := (i : Int) + 1) (by omega) (by omega), wrap_id (by omega) (by omega)]
    have := ih (i + 1) (by omega)
    rw [show k1 + ((i + 1 : Nat) : Int) = k1 + i + 1 by omega] at this
    exact this
theorem heldIntS_ev (k1 : Int) (n : Nat) (h0 : 0 ≤ k1) (h1 : k1 + n ≤ 9223372036854775807) : Ev (fun k => laws_heldIntS.f k (upFrom k1 n) k1) (k1 + n) := by
  unfold laws_heldIntS.f
  have := heldIntS_l0 k1 n h0 h1 n 0 (by omega)
  simpa using this
theorem toIntSS_l0 (xs : List (List Int)) (hn : xs.length ≤ 11728124029610) (hi : ∀ y ∈ xs, y.length ≤ 35184372088832) : ∀ (zs : List (List Int)) (i : Nat) (ys : List (List Int)), xs.drop i = zs → ys.length = xs.length → ys.take i = xs.take i → Ev (fun k => laws_toIntSS.l0 k xs ys (i : Int)) xs := by
  intro zs
  induction zs with
  | nil =>
    intro i ys h hl ht
    have := at_end h
    refine Ev.step (fun k => by rw [laws_toIntSS.l0]) ?_
    refine ev_neg (by omega) ?_
    rw [List.take_of_length_le (by omega), List.take_of_length_le (by omega)] at ht
    rw [ht]
    exact Ev.now _
  | cons z zs ih =>
    intro i ys h hl ht
    obtain ⟨hlt, hz, h2, _⟩ := at_drop h
    have hr : rd_L1 xs (i : Int) = z := getD_at hz
    have hm : z ∈ xs := List.mem_of_getElem? hz
    refine Ev.step (fun k => by rw [laws_toIntSS.l0]) ?_
    refine ev_pos (by omega) (ev_pos (by omega) ?_)
    rw [hr]
    refine Ev.bind (toIntS_ev z (hi z hm)) (ev_pos (by omega) ?_)
    rw [wrap_id (by omega) (by omega), Int.toNat_natCast]
    exact ih (i + 1) _ h2 (by simp [hl]) (by rw [take_set_at (by omega), take_at hz, ht])
theorem toIntSS_ev (xs : List (List Int)) (hn : xs.length ≤ 11728124029610) (hi : ∀ y ∈ xs, y.length ≤ 35184372088832) : Ev (fun k => laws_toIntSS.f k xs) xs := by
  unfold laws_toIntSS.f
  exact ev_pos (by omega) (ev_pos (by omega) (toIntSS_l0 xs hn hi xs 0 _ rfl (by simp) (by simp)))
theorem eqIntSS_l0 (xs ys : List (List Int)) (hl : xs.length = ys.length) (hn : xs.length ≤ 9223372036854775807) (hi : ∀ y ∈ xs, y.length ≤ 9223372036854775807) : ∀ (zs us : List (List Int)) (i : Nat), xs.drop i = zs → ys.drop i = us → Ev (fun k => laws_eqIntSS.l0 k xs ys (i : Int)) (decide (zs = us)) := by
  intro zs
  induction zs with
  | nil =>
    intro us i h hu
    have := at_end h
    refine Ev.step (fun k => by rw [laws_eqIntSS.l0]) ?_
    rw [List.drop_of_length_le (by omega)] at hu
    subst hu
    exact ev_neg (by omega) (ev_eq (Ev.now _) (by simp))
  | cons z zs ih =>
    intro us i h hu
    obtain ⟨hlt, hz, h2, _⟩ := at_drop h
    cases us with
    | nil => have := at_end hu; omega
    | cons u us =>
      obtain ⟨_, hzu, hu2, _⟩ := at_drop hu
      have hr : rd_L1 xs (i : Int) = z := getD_at hz
      have hr2 : rd_L1 ys (i : Int) = u := getD_at hzu
      refine Ev.step (fun k => by rw [laws_eqIntSS.l0]) ?_
      refine ev_pos (by omega) (ev_pos (by omega) (ev_pos (by omega) ?_))
      rw [wrap_id (by omega) (by omega), hr, hr2]
      refine Ev.bind (eqIntS_ev z u (hi z (List.mem_of_getElem? hz))) (ev_ite (fun e => ev_eq (ih us (i + 1) h2 hu2) ?_) (fun e => ev_eq (Ev.now _) ?_))
      · simp only [decide_eq_true_eq] at e
        simp [e]
      · simp only [decide_eq_true_eq] at e
        simp [e]
theorem eqIntSS_ev (xs ys : List (List Int)) (hn : xs.length ≤ 9223372036854775807) (hi : ∀ y ∈ xs, y.length ≤ 9223372036854775807) : Ev (fun k => laws_eqIntSS.f k xs ys) (decide (xs = ys)) := by
  unfold laws_eqIntSS.f
  refine ev_ite (fun e => eqIntSS_l0 xs ys (by omega) hn hi xs ys 0 rfl rfl) (fun e => ev_eq (Ev.now _) ?_)
  have : xs ≠ ys := by rintro rfl; exact e rfl
  simp [this]
theorem eqIntSS_same (xs : List (List Int)) (hn : xs.length ≤ 9223372036854775807) (hi : ∀ y ∈ xs, y.length ≤ 9223372036854775807) : Ev (fun k => laws_eqIntSS.f k xs xs) true := ev_eq (eqIntSS_ev xs xs hn hi) (by simp)
theorem szIntS_eq (xs : List Int) (n : Int) (h0 : -9223372036854775808 + xs.length ≤ n) (h1 : n ≤ 9223372036854775807) : laws_szIntS.f xs n = some (if n - xs.length < 0 then -1 else n - xs.length) := by
  unfold laws_szIntS.f
  rw [wrap_id (by omega) (by omega)]
  split <;> rfl
theorem szIntSS_l0 (xs : List (List Int)) (hn : xs.length ≤ 9223372036854775807) (hi : ∀ y ∈ xs, y.length ≤ 9223372036854775807) : ∀ (zs : List (List Int)) (i : Nat) (n : Int), xs.drop i = zs → 0 ≤ n → n ≤ 1048576 → ∃ r, Ev (fun k => laws_szIntSS.l0 k xs n (i : Int)) r ∧ (¬ r < 0 → ∀ y ∈ zs, y.length ≤ 1048576) := by
  intro zs
  induction zs with
  | nil =>
    intro i n h _ _
    have := at_end h
    refine ⟨n, Ev.step (fun k => by rw [laws_szIntSS.l0]) ?_, by simp⟩
    exact ev_neg (by omega) (Ev.now _)
  | cons z zs ih =>
    intro i n h h0 h1
    obtain ⟨hlt, hz, h2, _⟩ := at_drop h
    have hr : rd_L1 xs (i : Int) = z := getD_at hz
    have hm := hi z (List.mem_of_getElem? hz)
    by_cases hs : n - (z.length : Int) < 0
    · refine ⟨-1, Ev.step (fun k => by rw [laws_szIntSS.l0]) ?_, by omega⟩
      refine ev_pos (by omega) (ev_pos (by omega) ?_)
      rw [hr]
      refine ev_bind0 (szIntS_eq z n (by omega) (by omega)) ?_
      rw [if_pos hs]
      exact ev_pos (by omega) (Ev.now _)
    · obtain ⟨r, hev, hall⟩ := ih (i + 1) (n - z.length) h2 (by omega) (by omega)
      refine ⟨r, Ev.step (fun k => by rw [laws_szIntSS.l0]) ?_, fun hr0 y hy => ?_⟩
      · refine ev_pos (by omega) (ev_pos (by omega) ?_)
        rw [hr]
        refine ev_bind0 (szIntS_eq z n (by omega) (by omega)) ?_
        rw [if_neg hs, wrap_id (by omega) (by omega)]
        exact ev_neg (by omega) hev
      · rcases List.mem_cons.1 hy with rfl | hy
        · omega
        · exact hall hr0 y hy
theorem szIntSS_ev (xs : List (List Int)) (hn : xs.length ≤ 9223372036854775807) (hi : ∀ y ∈ xs, y.length ≤ 9223372036854775807) : ∃ r, Ev (fun k => laws_szIntSS.f k xs 1048576) r ∧ (¬ r < 0 → xs.length ≤ 1048576 ∧ ∀ y ∈ xs, y.length ≤ 1048576) := by
  unfold laws_szIntSS.f
  by_cases hs : (1048576 : Int) - xs.length < 0
  · refine ⟨-1, ?_, by omega⟩
    rw [wrap_id (by omega) (by omega)]
    exact ev_pos hs (Ev.now _)
  · obtain ⟨r, hev, hall⟩ := szIntSS_l0 xs hn hi xs 0 (1048576 - xs.length) rfl (by omega) (by omega)
    refine ⟨r, ?_, fun h => ⟨by omega, hall h⟩⟩
    rw [wrap_id (by omega) (by omega)]
    exact ev_neg hs hev

/-- How many numbers lie in rows of rows. -/
def total : List (List Int) → Nat
  | [] => 0
  | y :: ys => y.length + total ys
/-- The rows, marked: from k on, one behind the other. -/
def markRows (k : Int) : List (List Int) → List (List Int)
  | [] => []
  | y :: ys => upFrom k y.length :: markRows (k + y.length) ys
theorem markRows_length : ∀ (ys : List (List Int)) (k : Int), (markRows k ys).length = ys.length
  | [], _ => rfl
  | _ :: ys, _ => by simp [markRows, markRows_length ys]
theorem total_le (B : Nat) : ∀ ys : List (List Int), (∀ y ∈ ys, y.length ≤ B) → total ys ≤ ys.length * B
  | [], _ => by simp [total]
  | y :: ys, h => by
    have h1 := total_le B ys (fun z hz => h z (List.mem_cons_of_mem _ hz))
    have h2 := h y (List.mem_cons_self ..)
    simp only [total, List.length_cons, Nat.succ_mul]
    omega
theorem total_small (ys : List (List Int)) (hn : ys.length ≤ 1048576) (hi : ∀ y ∈ ys, y.length ≤ 1048576) : total ys ≤ 1099511627776 := by
  have h1 := total_le 1048576 ys hi
  omega
theorem markIntSS_l0 : ∀ (zs done : List (List Int)) (i : Nat) (k0 : Int), done.length = i → 0 ≤ k0 → k0 + total zs ≤ 9223372036854775807 → (done ++ zs).length ≤ 9223372036854775806 → Ev (fun k => laws_markIntSS.l0 k (done ++ zs) k0 (i : Int)) (k0 + total zs, done ++ markRows k0 zs) := by
  intro zs
  induction zs with
  | nil =>
    intro done i k0 hl h0 h1 h2
    refine Ev.step (fun k => by rw [laws_markIntSS.l0]) (ev_neg (by first | (simp; done) | (simp; omega)) (ev_eq (Ev.now _) ?_))
    simp [total, markRows]
  | cons y ys ih =>
    intro done i k0 hl h0 h1 h2
    have hlen : (done ++ y :: ys).length = i + 1 + ys.length := by simp; omega
    simp only [total] at h1
    refine Ev.step (fun k => by rw [laws_markIntSS.l0]) (ev_pos (by rw [hlen]; omega) (ev_pos (by omega) ?_))
    have hg : (done ++ y :: ys).getD (i : Int).toNat [] = y := by
      rw [Int.toNat_natCast, List.getD_eq_getElem?_getD, List.getElem?_append_right (by omega), hl, Nat.sub_self]
      rfl
    rw [hg]
    refine Ev.bind (markIntS_ev y k0 h0 (by omega)) ?_
    have hs : (done ++ y :: ys).set (i : Int).toNat (upFrom k0 y.length) = (done ++ [upFrom k0 y.length]) ++ ys := by
      rw [Int.toNat_natCast, List.set_append_right _ _ (by omega), hl, Nat.sub_self]
      simp
    dsimp only
    rw [hs, wrap_id (x := (i : Int) + 1) (by omega) (by omega)]
    refine ev_eq (ih (done ++ [upFrom k0 y.length]) (i + 1) (k0 + y.length) (by first | (simp; done) | (simp; omega)) (by omega) (by omega) (by rw [List.length_append, List.length_cons] at h2; rw [List.length_append, List.length_append, List.length_singleton]; omega)) ?_
    simp only [total, markRows, List.append_assoc, List.singleton_append, Prod.mk.injEq, and_true]
    omega
theorem markIntSS_ev (ys : List (List Int)) (k0 : Int) (h0 : 0 ≤ k0) (h1 : k0 + total ys ≤ 9223372036854775807) (h2 : ys.length ≤ 9223372036854775806) : Ev (fun k => laws_markIntSS.f k ys k0) (k0 + total ys, markRows k0 ys) := by
  unfold laws_markIntSS.f
  simpa using markIntSS_l0 ys [] 0 k0 rfl h0 h1 (by simpa using h2)
theorem heldIntSS_l0 : ∀ (zs done : List (List Int)) (i : Nat) (k0 : Int), done.length = i → 0 ≤ k0 → k0 + total zs ≤ 9223372036854775807 → (done ++ zs).length ≤ 9223372036854775806 → Ev (fun k => laws_heldIntSS.l0 k (done ++ markRows k0 zs) k0 (i : Int)) (k0 + total zs) := by
  intro zs
  induction zs with
  | nil =>
    intro done i k0 hl h0 h1 h2
    refine Ev.step (fun k => by rw [laws_heldIntSS.l0]) (ev_neg (by simp [markRows]; omega) (ev_eq (Ev.now _) ?_))
    simp [total]
  | cons y ys ih =>
    intro done i k0 hl h0 h1 h2
    have hlen : (done ++ markRows k0 (y :: ys)).length = i + 1 + ys.length := by simp [markRows_length]; omega
    have hlen2 : (done ++ y :: ys).length = i + 1 + ys.length := by simp; omega
    simp only [total] at h1
    refine Ev.step (fun k => by rw [laws_heldIntSS.l0]) (ev_pos (by rw [hlen]; omega) (ev_pos (by omega) ?_))
    have hg : rd_L1 (done ++ markRows k0 (y :: ys)) (i : Int) = upFrom k0 y.length := getD_at (by rw [List.getElem?_append_right (by omega), hl, Nat.sub_self]; rfl)
    rw [hg]
    refine Ev.bind (heldIntS_ev k0 y.length h0 (by omega)) (ev_neg (by omega) ?_)
    rw [wrap_id (x := (i : Int) + 1) (by omega) (by omega), show done ++ markRows k0 (y :: ys) = (done ++ [upFrom k0 y.length]) ++ markRows (k0 + y.length) ys by simp [markRows]]
    refine ev_eq (ih (done ++ [upFrom k0 y.length]) (i + 1) (k0 + y.length) (by first | (simp; done) | (simp; omega)) (by omega) (by omega) (by rw [List.length_append, List.length_cons] at h2; rw [List.length_append, List.length_append, List.length_singleton]; omega)) ?_
    simp only [total]
    omega
theorem heldIntSS_ev (ys : List (List Int)) (k0 : Int) (h0 : 0 ≤ k0) (h1 : k0 + total ys ≤ 9223372036854775807) (h2 : ys.length ≤ 9223372036854775806) : Ev (fun k => laws_heldIntSS.f k (markRows k0 ys) k0) (k0 + total ys) := by
  unfold laws_heldIntSS.f
  simpa using heldIntSS_l0 ys [] 0 k0 rfl h0 h1 (by simpa using h2)
theorem cloneI_eq (xs : List Int) (h : xs.length ≤ 1048576) : slices_Clone_int_int.f xs = some xs := by
  unfold slices_Clone_int_int.f
  rw [Option.bind_some, if_pos (by simp only [List.length_nil]; omega)]
  rfl
theorem equalInts_l0 (xs ys : List Int) (hl : xs.length = ys.length) (hn : xs.length ≤ 9223372036854775807) : ∀ (zs us : List Int) (i : Nat), xs.drop i = zs → ys.drop i = us → Ev (fun k => spec_EqualInts.l0 k xs ys (i : Int)) (decide (zs = us)) := by
  intro zs
  induction zs with
  | nil =>
    intro us i h hu
    have := at_end h
    refine Ev.step (fun k => by rw [spec_EqualInts.l0]) ?_
    rw [List.drop_of_length_le (by omega)] at hu
    subst hu
    exact ev_neg (by omega) (ev_eq (Ev.now _) (by simp))
  | cons z zs ih =>
    intro us i h hu
    obtain ⟨hlt, hz, h2, _⟩ := at_drop h
    cases us with
    | nil => have := at_end hu; omega
    | cons u us =>
      obtain ⟨_, hzu, hu2, _⟩ := at_drop hu
      refine Ev.step (fun k => by rw [spec_EqualInts.l0]) ?_
      refine ev_pos (by omega) (ev_pos (by omega) (ev_pos (by omega) ?_))
      rw [wrap_id (by omega) (by omega), rd_get hz, rd_get hzu]
      refine ev_ite (fun e => ev_eq (ih us (i + 1) h2 hu2) ?_) (fun e => ev_eq (Ev.now _) ?_)
      · simp [e]
      · simp [e]
theorem equalInts_ev (xs ys : List Int) (hn : xs.length ≤ 9223372036854775807) : Ev (fun k => spec_EqualInts.f k xs ys) (decide (xs = ys)) := by
  unfold spec_EqualInts.f
  refine ev_ite (fun e => equalInts_l0 xs ys (by omega) hn xs ys 0 rfl rfl) (fun e => ev_eq (Ev.now _) ?_)
  have : xs ≠ ys := by rintro rfl; exact e rfl
  simp [this]
/-- The place of the first row that is f. -/
def rowAt (f : List Int) : List (List Int) → Nat → Int
  | [], _ => -1
  | r :: rs, i => if r = f then i else rowAt f rs (i + 1)
theorem rowAt_bound (f : List Int) : ∀ (rs : List (List Int)) (i : Nat), rowAt f rs i = -1 ∨ (i : Int) ≤ rowAt f rs i ∧ rowAt f rs i < i + rs.length := by
  intro rs
  induction rs with
  | nil => intro i; exact .inl rfl
  | cons r rs ih =>
    intro i
    unfold rowAt
    split
    · right; simp; omega
    · rcases ih (i + 1) with h | h
      · exact .inl h
      · right; simp only [List.length_cons]; omega
theorem l12Find_l0 (xs : List (List Int)) (f : List Int) (hn : xs.length ≤ 9223372036854775807) (hi : ∀ y ∈ xs, y.length ≤ 9223372036854775807) : ∀ (zs : List (List Int)) (i : Nat), xs.drop i = zs → Ev (fun k => spec_l12Find.l0 k xs f (i : Int)) (rowAt f zs i) := by
  intro zs
  induction zs with
  | nil =>
    intro i h
    have := at_end h
    refine Ev.step (fun k => by rw [spec_l12Find.l0]) ?_
    exact ev_neg (by omega) (Ev.now _)
  | cons z zs ih =>
    intro i h
    obtain ⟨hlt, hz, h2, _⟩ := at_drop h
    have hr : rd_L1 xs (i : Int) = z := getD_at hz
    refine Ev.step (fun k => by rw [spec_l12Find.l0]) ?_
    rw [hr, wrap_id (by omega) (by omega)]
    refine ev_pos (by omega) (ev_pos (by omega) (Ev.bind (equalInts_ev z f (hi z (List.mem_of_getElem? hz))) ?_))
    unfold rowAt
    by_cases e : z = f
    · rw [if_pos e]
      exact ev_pos (by simp [e]) (Ev.now _)
    · rw [if_neg e]
      exact ev_neg (by simp [e]) (ih (i + 1) h2)
theorem l12Find_ev (xs : List (List Int)) (f : List Int) (hn : xs.length ≤ 9223372036854775807) (hi : ∀ y ∈ xs, y.length ≤ 9223372036854775807) : Ev (fun k => spec_l12Find.f k xs f) (rowAt f xs 0) := by
  unfold spec_l12Find.f
  exact l12Find_l0 xs f hn hi xs 0 rfl
theorem rowsAlike_l0 (xs ys : List Int) (hl : xs.length = ys.length) (hn : xs.length ≤ 9223372036854775807) : ∀ (zs us : List Int) (i : Nat), xs.drop i = zs → ys.drop i = us → Ev (fun k => rowsAlike.l0 k xs ys xs.length (i : Int)) (decide (zs = us)) := by
  intro zs
  induction zs with
  | nil =>
    intro us i h hu
    have := at_end h
    refine Ev.step (fun k => by rw [rowsAlike.l0]) ?_
    rw [List.drop_of_length_le (by omega)] at hu
    subst hu
    exact ev_neg (by omega) (ev_eq (Ev.now _) (by simp))
  | cons z zs ih =>
    intro us i h hu
    obtain ⟨hlt, hz, h2, _⟩ := at_drop h
    cases us with
    | nil => have := at_end hu; omega
    | cons u us =>
      obtain ⟨_, hzu, hu2, _⟩ := at_drop hu
      refine Ev.step (fun k => by rw [rowsAlike.l0]) ?_
      refine ev_pos (by omega) (ev_pos (by omega) (ev_pos (by omega) (ev_pos (by omega) ?_)))
      rw [wrap_id (by omega) (by omega), rd_get hz, rd_get hzu]
      refine ev_ite (fun e => ev_eq (ih us (i + 1) h2 hu2) ?_) (fun e => ev_eq (Ev.now _) ?_)
      · simp [e]
      · simp [e]
theorem rowsAlike_ev (xs ys : List Int) (hn : xs.length ≤ 9223372036854775807) : Ev (fun k => rowsAlike.f k xs ys) (decide (xs = ys)) := by
  unfold rowsAlike.f
  refine ev_ite (fun e => rowsAlike_l0 xs ys (by omega) hn xs ys 0 rfl rfl) (fun e => ev_eq (Ev.now _) ?_)
  have : xs ≠ ys := by rintro rfl; exact e rfl
  simp [this]
theorem formulaAt_l0 (xs : List (List Int)) (f : List Int) (hn : xs.length ≤ 9223372036854775807) (hi : ∀ y ∈ xs, y.length ≤ 9223372036854775807) : ∀ (zs : List (List Int)) (i : Nat), xs.drop i = zs → Ev (fun k => impl_formulaAt.l0 k xs f (i : Int)) (rowAt f zs i) := by
  intro zs
  induction zs with
  | nil =>
    intro i h
    have := at_end h
    refine Ev.step (fun k => by rw [impl_formulaAt.l0]) ?_
    exact ev_neg (by omega) (Ev.now _)
  | cons z zs ih =>
    intro i h
    obtain ⟨hlt, hz, h2, _⟩ := at_drop h
    have hr : rd_L1 xs (i : Int) = z := getD_at hz
    refine Ev.step (fun k => by rw [impl_formulaAt.l0]) ?_
    rw [hr, wrap_id (by omega) (by omega)]
    refine ev_pos (by omega) (ev_pos (by omega) (Ev.bind (rowsAlike_ev z f (hi z (List.mem_of_getElem? hz))) ?_))
    unfold rowAt
    by_cases e : z = f
    · rw [if_pos e]
      exact ev_pos (by simp [e]) (Ev.now _)
    · rw [if_neg e]
      exact ev_neg (by simp [e]) (ih (i + 1) h2)
theorem formulaAt_ev (xs : List (List Int)) (f : List Int) (hn : xs.length ≤ 9223372036854775807) (hi : ∀ y ∈ xs, y.length ≤ 9223372036854775807) : Ev (fun k => impl_formulaAt.f k xs f) (rowAt f xs 0) := by
  unfold impl_formulaAt.f
  exact formulaAt_l0 xs f hn hi xs 0 rfl
theorem copyR_l0 (xs : List (List Int)) (hn : xs.length ≤ 1048576) (hi : ∀ y ∈ xs, y.length ≤ 1048576) : ∀ (zs : List (List Int)) (i : Nat) (acc : List (List Int)), xs.drop i = zs → acc.length = i → Ev (fun k => spec_l12Copy.l0 k xs acc (i : Int)) (acc ++ zs) := by
  intro zs
  induction zs with
  | nil =>
    intro i acc h hl
    have := at_end h
    refine Ev.step (fun k => by rw [spec_l12Copy.l0]) ?_
    exact ev_neg (by omega) (ev_eq (Ev.now _) (by simp))
  | cons z zs ih =>
    intro i acc h hl
    obtain ⟨hlt, hz, h2, _⟩ := at_drop h
    have hr : rd_L1 xs (i : Int) = z := getD_at hz
    have hm := hi z (List.mem_of_getElem? hz)
    refine Ev.step (fun k => by rw [spec_l12Copy.l0]) ?_
    refine ev_pos (by omega) (ev_bind0 (a := ([] : List Int)) rfl (ev_pos (by omega) ?_))
    rw [hr, wrap_id (x := (i : Int) + 1) (by omega) (by omega)]
    refine ev_pos (by simp only [List.length_nil]; omega) (ev_pos (by omega) ?_)
    refine ev_eq (ih (i + 1) (acc ++ [[] ++ z]) h2 (by first | (simp; done) | (simp; omega))) (by simp)
theorem copyR_ev (xs : List (List Int)) (hn : xs.length ≤ 1048576) (hi : ∀ y ∈ xs, y.length ≤ 1048576) : Ev (fun k => spec_l12Copy.f k xs) xs := by
  unfold spec_l12Copy.f
  simpa using copyR_l0 xs hn hi xs 0 [] rfl rfl
theorem cloneR_l0 (xs : List (List Int)) (hn : xs.length ≤ 1048576) (hi : ∀ y ∈ xs, y.length ≤ 1048576) : ∀ (zs : List (List Int)) (i : Nat) (acc : List (List Int)), xs.drop i = zs → acc.length = i → Ev (fun k => impl_cloneStore.l0 k acc xs (xs.length : Int) (i : Int)) (acc ++ zs) := by
  intro zs
  induction zs with
  | nil =>
    intro i acc h hl
    have := at_end h
    refine Ev.step (fun k => by rw [impl_cloneStore.l0]) ?_
    exact ev_neg (by omega) (ev_eq (Ev.now _) (by simp))
  | cons z zs ih =>
    intro i acc h hl
    obtain ⟨hlt, hz, h2, _⟩ := at_drop h
    have hr : rd_L1 xs (i : Int) = z := getD_at hz
    have hm := hi z (List.mem_of_getElem? hz)
    refine Ev.step (fun k => by rw [impl_cloneStore.l0]) ?_
    refine ev_pos (by omega) (ev_pos (by omega) (ev_pos (by omega) ?_))
    rw [hr, wrap_id (x := (i : Int) + 1) (by omega) (by omega)]
    refine ev_bind0 (cloneI_eq z hm) (ev_pos (by omega) ?_)
    refine ev_eq (ih (i + 1) (acc ++ [z]) h2 (by first | (simp; done) | (simp; omega))) (by simp)
theorem cloneR_ev (xs : List (List Int)) (hn : xs.length ≤ 1048576) (hi : ∀ y ∈ xs, y.length ≤ 1048576) : Ev (fun k => impl_cloneStore.f k xs) xs := by
  unfold impl_cloneStore.f
  simpa using cloneR_l0 xs hn hi xs 0 [] rfl rfl
def takeBack (xs : List (List Int)) (f : List Int) : List (List Int) × Bool := if rowAt f xs 0 < 0 then (xs, false) else (xs.eraseIdx (rowAt f xs 0).toNat, true)
theorem takeBack_size (xs : List (List Int)) (f : List Int) (hn : xs.length ≤ 1048576) (hi : ∀ y ∈ xs, y.length ≤ 1048576) : (takeBack xs f).1.length ≤ 1048576 ∧ ∀ y ∈ (takeBack xs f).1, y.length ≤ 1048576 := by
  unfold takeBack
  split
  · exact ⟨hn, hi⟩
  · exact ⟨Nat.le_trans (List.length_eraseIdx_le _ _) hn, fun y hy => hi y (List.mem_of_mem_eraseIdx hy)⟩
theorem back_spec (xs : List (List Int)) (f : List Int) (hn : xs.length ≤ 1048576) (hi : ∀ y ∈ xs, y.length ≤ 1048576) : Ev (fun k => spec_TakeBack.f k xs f) (takeBack xs f) := by
  have hb := rowAt_bound f xs 0
  unfold spec_TakeBack.f takeBack
  refine Ev.bind (l12Find_ev xs f (by omega) (fun y hy => Nat.le_trans (hi y hy) (by omega))) ?_
  generalize rowAt f xs 0 = t at hb ⊢
  refine ev_ite (fun e => Ev.bind (copyR_ev xs hn hi) (ev_eq (Ev.now _) (by rw [if_pos e]))) (fun e => ?_)
  have ht : 0 ≤ t ∧ t < (xs.length : Int) := by omega
  rw [wrap_id (x := t + 1) (by omega) (by omega)]
  refine ev_pos ht.1 (ev_pos (by omega) (Ev.bind (copyR_ev (xs.take t.toNat) (by rw [List.length_take]; omega) (fun y hy => hi y (List.mem_of_mem_take hy))) ?_))
  refine ev_pos (by omega) (ev_pos (by omega) (Ev.bind (copyR_ev (xs.drop (t + 1).toNat) (by rw [List.length_drop]; omega) (fun y hy => hi y (List.mem_of_mem_drop hy))) (ev_pos (by rw [List.length_take, List.length_drop]; omega) (ev_eq (Ev.now _) ?_))))
  rw [if_neg e, List.eraseIdx_eq_take_drop_succ, show (t + 1).toNat = t.toNat + 1 by omega]
theorem back_impl (xs : List (List Int)) (f : List Int) (hn : xs.length ≤ 1048576) (hi : ∀ y ∈ xs, y.length ≤ 1048576) : Ev (fun k => impl_TakeBack.f k xs f) (takeBack xs f) := by
  have hb := rowAt_bound f xs 0
  unfold impl_TakeBack.f takeBack
  refine Ev.bind (cloneR_ev xs hn hi) (Ev.bind (formulaAt_ev xs f (by omega) (fun y hy => Nat.le_trans (hi y hy) (by omega))) ?_)
  generalize rowAt f xs 0 = t at hb ⊢
  refine ev_ite (fun e => ev_eq (Ev.now _) (by rw [if_pos e])) (fun e => ?_)
  refine ev_pos (by omega) (ev_pos (by omega) (ev_eq (Ev.now _) (by rw [if_neg e])))

theorem FnExactTakeBack (l0 : List (List Int)) (g0 : l0.length ≤ 9223372036854775807 ∧ ∀ y ∈ l0, y.length ≤ 9223372036854775807 ∧ ∀ z ∈ y, (Lit.int .i64 z).wf = true) (l1 : List Int) (g1 : l1.length ≤ 9223372036854775807 ∧ ∀ y ∈ l1, (Lit.int .i64 y).wf = true) : ∃ k, laws_FnExactTakeBack.f k l0 l1 = some true := by
  refine Ev.rounds (g := fun k => laws_FnExactTakeBack.f k l0 l1) ?_
  unfold laws_FnExactTakeBack.f
  refine ev_ite (fun _ => Ev.now _) (fun hm => ?_)
  obtain ⟨r, hr, hok⟩ := szIntSS_ev l0 g0.1 (fun y hy => (g0.2 y hy).1)
  refine Ev.bind hr (ev_ite (fun _ => Ev.now _) (fun h0 => ?_))
  obtain ⟨hn, hi⟩ := hok h0
  have hs := back_spec l0 l1 hn hi
  have hp := back_impl l0 l1 hn hi
  obtain ⟨hwn, hwi⟩ := takeBack_size l0 l1 hn hi
  have ht := total_small l0 hn hi
  have hT := toIntS_ev l1 (by omega)
  have hG := toIntSS_ev l0 (by omega) (fun y hy => Nat.le_trans (hi y hy) (by decide))
  generalize takeBack l0 l1 = W at hs hp hwn hwi
  obtain ⟨rs, fl⟩ := W
  dsimp only at hwn hwi
  have hwt := total_le 1048576 rs hwi
  have hwt2 : total rs ≤ 2199023255552 := by omega
  have hE := eqIntSS_same rs (by omega) (fun y hy => Nat.le_trans (hwi y hy) (by omega))
  refine Ev.bind hG (Ev.bind hT (Ev.bind hs ?_))
  dsimp only
  refine Ev.bind hG (Ev.bind hT (Ev.bind hp ?_))
  dsimp only
  refine Ev.bind hE (ev_pos rfl ?_)
  refine Ev.step (fun k => by rw [laws_FnExactTakeBack.j0]) ?_
  refine ev_neg (by simp) (Ev.bind hG ?_)
  refine Ev.bind (eqIntSS_same _ g0.1 (fun y hy => (g0.2 y hy).1)) (ev_pos rfl (Ev.bind hT (Ev.bind (eqIntS_same _ (by omega)) (ev_pos rfl ?_))))
  refine Ev.bind (markIntSS_ev l0 1 (by omega) (by omega) (by omega)) ?_
  dsimp only
  refine Ev.bind (markIntS_ev l1 _ (by omega) (by omega)) ?_
  dsimp only
  refine ev_neg (by omega) (Ev.bind hE (ev_pos rfl ?_))
  refine Ev.step (fun k => by rw [laws_FnExactTakeBack.j1]) ?_
  refine ev_neg (by simp) (Ev.bind (markIntSS_ev rs 1 (by omega) (by omega) (by omega)) ?_)
  dsimp only
  refine Ev.bind (heldIntSS_ev rs 1 (by omega) (by omega) (by omega)) (ev_neg (by omega) (ev_pos rfl ?_))
  refine Ev.bind hG (Ev.bind hT (Ev.bind hp ?_))
  dsimp only
  refine Ev.bind hE (ev_pos rfl ?_)
  refine Ev.step (fun k => by rw [laws_FnExactTakeBack.j2]) ?_
  exact ev_neg (by simp) (Ev.bind (heldIntSS_ev rs 1 (by omega) (by omega) (by omega)) (ev_neg (by omega) (ev_pos rfl (Ev.now _))))

end Go.Proofs.Ytlbecibchkamjaa.Pure
