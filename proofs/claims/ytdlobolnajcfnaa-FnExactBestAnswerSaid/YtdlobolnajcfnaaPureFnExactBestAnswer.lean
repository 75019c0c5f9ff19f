/- The plain statement of the law FnExactBestAnswer, for all numbers and lists. -/
import Derived.Test.YtdlobolnajcfnaaPFnExactBestAnswerx0
import Derived.Test.YtdlobolnajcfnaaPFnExactBestAnswerx1
import Derived.Test.YtdlobolnajcfnaaPFnExactBestAnswerx2
import Derived.Test.YtdlobolnajcfnaaPFnExactBestAnswerx3
import Derived.Test.YtdlobolnajcfnaaPFnExactBestAnswerx4
import Derived.Test.YtdlobolnajcfnaaPFnExactBestAnswerx5
import Derived.Test.YtdlobolnajcfnaaPFnExactBestAnswerx6
import Derived.Test.YtdlobolnajcfnaaPFnExactBestAnswerx7
import Derived.Test.YtdlobolnajcfnaaPFnExactBestAnswerx8
import Derived.Test.YtdlobolnajcfnaaPFnExactBestAnswerx9
import Derived.Test.YtdlobolnajcfnaaPFnExactBestAnswerx10
import Derived.Test.YtdlobolnajcfnaaBase
set_option linter.unusedVariables false
set_option linter.unusedSimpArgs false
namespace Go.Proofs.Ytdlobolnajcfnaa.Pure
open Go.RowKit Go.Proofs.Ytdlobolnajcfnaa.PFnExactBestAnswer Go.Proofs.YtdlobolnajcfnaaW.PrintWords Go.Proofs.YtdlobolnajcfnaaW.PrintLast Go.Proofs.YtdlobolnajcfnaaW.PrintMore Go.Proofs.Ytdlobolnajcfnaa.Base
theorem toIntS_l0 (xs : List Int) (hn : xs.length ≤ 35184372088832) : ∀ (zs : List Int) (i : Nat) (ys : List Int), xs.drop i = zs → ys.length = xs.length → ys.take i = xs.take i → Ev (fun k => laws_toIntS.l0 k xs ys (i : Int)) xs := by
  intro zs
  induction zs with
  | nil =>
    intro i ys h hl ht
    have := at_end h
    refine Ev.step (fun k => by rw [laws_toIntS.l0]) (ev_neg (by omega) ?_)
    rw [List.take_of_length_le (by omega), List.take_of_length_le (by omega)] at ht
    rw [ht]
    exact Ev.now _
  | cons z zs ih =>
    intro i ys h hl ht
    obtain ⟨hi, hz, h', _⟩ := at_drop h
    refine Ev.step (fun k => by rw [laws_toIntS.l0]) (ev_pos (by omega) (ev_pos (by omega) (ev_pos (by omega) ?_)))
    rw [wrap_id (by omega) (by omega), Int.toNat_natCast, rd_get hz]
    exact ih (i + 1) _ h' (by simp [hl]) (by rw [take_set_at (by omega), take_at hz, ht])
theorem toIntS_ev (xs : List Int) (hn : xs.length ≤ 35184372088832) : Ev (fun k => laws_toIntS.f k xs) xs := by
  unfold laws_toIntS.f
  exact ev_pos (by omega) (ev_pos (by omega) (toIntS_l0 xs hn xs 0 _ rfl (by simp) (by simp)))
theorem eqIntS_l0 (xs ys : List Int) (hl : xs.length = ys.length) (hn : xs.length ≤ 9223372036854775807) : ∀ (zs us : List Int) (i : Nat), xs.drop i = zs → ys.drop i = us → Ev (fun k => laws_eqIntS.l0 k xs ys (i : Int)) (decide (zs = us)) := by
  intro zs
  induction zs with
  | nil =>
    intro us i h hu
    have := at_end h
    refine Ev.step (fun k => by rw [laws_eqIntS.l0]) (ev_neg (by omega) ?_)
    rw [List.drop_of_length_le (by omega)] at hu
    subst hu
    exact ev_eq (Ev.now _) (by simp)
  | cons z zs ih =>
    intro us i h hu
    obtain ⟨hi, hz, h', _⟩ := at_drop h
    cases us with
    | nil => have := at_end hu; omega
    | cons u us =>
      obtain ⟨_, hzu, hu', _⟩ := at_drop hu
      refine Ev.step (fun k => by rw [laws_eqIntS.l0]) (ev_pos (by omega) (ev_pos (by omega) (ev_pos (by omega) ?_)))
      rw [wrap_id (by omega) (by omega), rd_get hz, rd_get hzu]
      refine ev_ite (fun e => ev_eq (ih us (i + 1) h' hu') (by simp [e])) (fun e => ev_eq (Ev.now _) (by simp [e]))
theorem eqIntS_ev (xs ys : List Int) (hn : xs.length ≤ 9223372036854775807) : Ev (fun k => laws_eqIntS.f k xs ys) (decide (xs = ys)) := by
  unfold laws_eqIntS.f
  refine ev_ite (fun e => eqIntS_l0 xs ys (by omega) hn xs ys 0 rfl rfl) (fun e => ev_eq (Ev.now _) ?_)
  have : xs ≠ ys := by rintro rfl; exact e rfl
  simp [this]
theorem eqIntS_same (xs : List Int) (hn : xs.length ≤ 9223372036854775807) : Ev (fun k => laws_eqIntS.f k xs xs) true := ev_eq (eqIntS_ev xs xs hn) (by simp)
theorem l4Has_l0 (xs : List Int) (x : Int) (hn : xs.length ≤ 9223372036854775807) : ∀ (zs : List Int) (i : Nat), xs.drop i = zs → Ev (fun k => spec_l4Has.l0 k xs x (i : Int)) (decide (x ∈ zs)) := by
  intro zs
  induction zs with
  | nil =>
    intro i h
    have := at_end h
    exact Ev.step (fun k => by rw [spec_l4Has.l0]) (ev_neg (by omega) (ev_eq (Ev.now _) (by simp)))
  | cons z zs ih =>
    intro i h
    obtain ⟨hi, hz, h', _⟩ := at_drop h
    refine Ev.step (fun k => by rw [spec_l4Has.l0]) (ev_pos (by omega) (ev_pos (by omega) ?_))
    rw [wrap_id (by omega) (by omega), rd_get hz]
    exact ev_ite (fun e => ev_eq (Ev.now _) (by simp [e])) (fun e => ev_eq (ih (i + 1) h') (by simp [Ne.symm e]))
theorem l4Has_ev (xs : List Int) (x : Int) (hn : xs.length ≤ 9223372036854775807) : Ev (fun k => spec_l4Has.f k xs x) (decide (x ∈ xs)) := by
  unfold spec_l4Has.f
  exact l4Has_l0 xs x hn xs 0 rfl
theorem indexInt_l0 (xs : List Int) (x : Int) (hn : xs.length ≤ 9223372036854775807) : ∀ (zs : List Int) (i : Nat), xs.drop i = zs → ∃ r : Int, Ev (fun k => slices_Index_int_int.l0 k xs x xs.length (i : Int)) r ∧ (0 ≤ r ↔ x ∈ zs) := by
  intro zs
  induction zs with
  | nil =>
    intro i h
    have := at_end h
    exact ⟨-1, Ev.step (fun k => by rw [slices_Index_int_int.l0]) (ev_neg (by omega) (Ev.now _)), by simp⟩
  | cons z zs ih =>
    intro i h
    obtain ⟨hi, hz, h', _⟩ := at_drop h
    by_cases e : x = z
    · refine ⟨i, Ev.step (fun k => by rw [slices_Index_int_int.l0]) (ev_pos (by omega) (ev_pos (by omega) (ev_pos (by omega) ?_))), by simp [e]⟩
      rw [rd_get hz]
      exact ev_pos e (Ev.now _)
    · obtain ⟨r, hr, hm⟩ := ih (i + 1) h'
      refine ⟨r, Ev.step (fun k => by rw [slices_Index_int_int.l0]) (ev_pos (by omega) (ev_pos (by omega) (ev_pos (by omega) ?_))), by simp [e, hm]⟩
      rw [rd_get hz, wrap_id (by omega) (by omega)]
      exact ev_neg e hr
theorem containsInt_ev (xs : List Int) (x : Int) (hn : xs.length ≤ 9223372036854775807) : Ev (fun k => slices_Contains_int_int.f k xs x) (decide (x ∈ xs)) := by
  unfold slices_Contains_int_int.f slices_Index_int_int.f
  obtain ⟨r, hr, hm⟩ := indexInt_l0 xs x hn xs 0 rfl
  exact Ev.bind hr (ev_eq (Ev.now _) (decide_eq_decide.2 hm))
theorem l1In_eq (x a b : Int) : spec_l1In.f x a b = some (decide (a ≤ x ∧ x ≤ b)) := by
  unfold spec_l1In.f
  by_cases h : a ≤ x <;> simp [h]
theorem inRange_eq (x a b : Int) : impl_InRange.f x a b = some (decide (a ≤ x ∧ x ≤ b)) := by
  unfold impl_InRange.f
  by_cases h : a ≤ x <;> simp [h]

theorem toIntSS_l0 (xs : List (List Int)) (hn : xs.length ≤ 11728124029610) (hi : ∀ y ∈ xs, y.length ≤ 35184372088832) : ∀ (zs : List (List Int)) (i : Nat) (ys : List (List Int)), xs.drop i = zs → ys.length = xs.length → ys.take i = xs.take i → Ev (fun k => laws_toIntSS.l0 k xs ys (i : Int)) xs := by
  intro zs
  induction zs with
  | nil =>
    intro i ys h hl ht
    have := at_end h
    refine Ev.step (fun k => by rw [laws_toIntSS.l0]) ?_
    refine ev_neg (by omega) ?_
    rw [List.take_of_length_le (by omega), List.take_of_length_le (by omega)] at ht
    rw [ht]
    exact Ev.now _
  | cons z zs ih =>
    intro i ys h hl ht
    obtain ⟨hlt, hz, h2, _⟩ := at_drop h
    have hr : rd_L1 xs (i : Int) = z := getD_at hz
    have hm : z ∈ xs := List.mem_of_getElem? hz
    refine Ev.step (fun k => by rw [laws_toIntSS.l0]) ?_
    refine ev_pos (by omega) (ev_pos (by omega) ?_)
    rw [hr]
    refine Ev.bind (toIntS_ev z (hi z hm)) (ev_pos (by omega) ?_)
    rw [wrap_id (by omega) (by omega), Int.toNat_natCast]
    exact ih (i + 1) _ h2 (by simp [hl]) (by rw [take_set_at (by omega), take_at hz, ht])
theorem toIntSS_ev (xs : List (List Int)) (hn : xs.length ≤ 11728124029610) (hi : ∀ y ∈ xs, y.length ≤ 35184372088832) : Ev (fun k => laws_toIntSS.f k xs) xs := by
  unfold laws_toIntSS.f
  exact ev_pos (by omega) (ev_pos (by omega) (toIntSS_l0 xs hn hi xs 0 _ rfl (by simp) (by simp)))
theorem eqIntSS_l0 (xs ys : List (List Int)) (hl : xs.length = ys.length) (hn : xs.length ≤ 9223372036854775807) (hi : ∀ y ∈ xs, y.length ≤ 9223372036854775807) : ∀ (zs us : List (List Int)) (i : Nat), xs.drop i = zs → ys.drop i = us → Ev (fun k => laws_eqIntSS.l0 k xs ys (i : Int)) (decide (zs = us)) := by
  intro zs
  induction zs with
  | nil =>
    intro us i h hu
    have := at_end h
    refine Ev.step (fun k => by rw [laws_eqIntSS.l0]) ?_
    rw [List.drop_of_length_le (by omega)] at hu
    subst hu
    exact ev_neg (by omega) (ev_eq (Ev.now _) (by simp))
  | cons z zs ih =>
    intro us i h hu
    obtain ⟨hlt, hz, h2, _⟩ := at_drop h
    cases us with
    | nil => have := at_end hu; omega
    | cons u us =>
      obtain ⟨_, hzu, hu2, _⟩ := at_drop hu
      have hr : rd_L1 xs (i : Int) = z := getD_at hz
      have hr2 : rd_L1 ys (i : Int) = u := getD_at hzu
      refine Ev.step (fun k => by rw [laws_eqIntSS.l0]) ?_
      refine ev_pos (by omega) (ev_pos (by omega) (ev_pos (by omega) ?_))
      rw [wrap_id (by omega) (by omega), hr, hr2]
      refine Ev.bind (eqIntS_ev z u (hi z (List.mem_of_getElem? hz))) (ev_ite (fun e => ev_eq (ih us (i + 1) h2 hu2) ?_) (fun e => ev_eq (Ev.now _) ?_))
      · simp only [decide_eq_true_eq] at e
        simp [e]
      · simp only [decide_eq_true_eq] at e
        simp [e]
theorem eqIntSS_ev (xs ys : List (List Int)) (hn : xs.length ≤ 9223372036854775807) (hi : ∀ y ∈ xs, y.length ≤ 9223372036854775807) : Ev (fun k => laws_eqIntSS.f k xs ys) (decide (xs = ys)) := by
  unfold laws_eqIntSS.f
  refine ev_ite (fun e => eqIntSS_l0 xs ys (by omega) hn hi xs ys 0 rfl rfl) (fun e => ev_eq (Ev.now _) ?_)
  have : xs ≠ ys := by rintro rfl; exact e rfl
  simp [this]
theorem eqIntSS_same (xs : List (List Int)) (hn : xs.length ≤ 9223372036854775807) (hi : ∀ y ∈ xs, y.length ≤ 9223372036854775807) : Ev (fun k => laws_eqIntSS.f k xs xs) true := ev_eq (eqIntSS_ev xs xs hn hi) (by simp)
theorem szIntS_eq (xs : List Int) (n : Int) (h0 : -9223372036854775808 + xs.length ≤ n) (h1 : n ≤ 9223372036854775807) : laws_szIntS.f xs n = some (if n - xs.length < 0 then -1 else n - xs.length) := by
  unfold laws_szIntS.f
  rw [wrap_id (by omega) (by omega)]
  split <;> rfl
theorem szIntSS_l0 (xs : List (List Int)) (hn : xs.length ≤ 9223372036854775807) (hi : ∀ y ∈ xs, y.length ≤ 9223372036854775807) : ∀ (zs : List (List Int)) (i : Nat) (n : Int), xs.drop i = zs → 0 ≤ n → n ≤ 1048576 → ∃ r, Ev (fun k => laws_szIntSS.l0 k xs n (i : Int)) r ∧ (¬ r < 0 → ∀ y ∈ zs, y.length ≤ 1048576) := by
  intro zs
  induction zs with
  | nil =>
    intro i n h _ _
    have := at_end h
    refine ⟨n, Ev.step (fun k => by rw [laws_szIntSS.l0]) ?_, by simp⟩
    exact ev_neg (by omega) (Ev.now _)
  | cons z zs ih =>
    intro i n h h0 h1
    obtain ⟨hlt, hz, h2, _⟩ := at_drop h
    have hr : rd_L1 xs (i : Int) = z := getD_at hz
    have hm := hi z (List.mem_of_getElem? hz)
    by_cases hs : n - (z.length : Int) < 0
    · refine ⟨-1, Ev.step (fun k => by rw [laws_szIntSS.l0]) ?_, by omega⟩
      refine ev_pos (by omega) (ev_pos (by omega) ?_)
      rw [hr]
      refine ev_bind0 (szIntS_eq z n (by omega) (by omega)) ?_
      rw [if_pos hs]
      exact ev_pos (by omega) (Ev.now _)
    · obtain ⟨r, hev, hall⟩ := ih (i + 1) (n - z.length) h2 (by omega) (by omega)
      refine ⟨r, Ev.step (fun k => by rw [laws_szIntSS.l0]) ?_, fun hr0 y hy => ?_⟩
      · refine ev_pos (by omega) (ev_pos (by omega) ?_)
        rw [hr]
        refine ev_bind0 (szIntS_eq z n (by omega) (by omega)) ?_
        rw [if_neg hs, wrap_id (by omega) (by omega)]
        exact ev_neg (by omega) hev
      · rcases List.mem_cons.1 hy with rfl | hy
        · omega
        · exact hall hr0 y hy
theorem szIntSS_ev (xs : List (List Int)) (hn : xs.length ≤ 9223372036854775807) (hi : ∀ y ∈ xs, y.length ≤ 9223372036854775807) : ∃ r, Ev (fun k => laws_szIntSS.f k xs 1048576) r ∧ (¬ r < 0 → xs.length ≤ 1048576 ∧ ∀ y ∈ xs, y.length ≤ 1048576) := by
  unfold laws_szIntSS.f
  by_cases hs : (1048576 : Int) - xs.length < 0
  · refine ⟨-1, ?_, by omega⟩
    rw [wrap_id (by omega) (by omega)]
    exact ev_pos hs (Ev.now _)
  · obtain ⟨r, hev, hall⟩ := szIntSS_l0 xs hn hi xs 0 (1048576 - xs.length) rfl (by omega) (by omega)
    refine ⟨r, ?_, fun h => ⟨by omega, hall h⟩⟩
    rw [wrap_id (by omega) (by omega)]
    exact ev_neg hs hev

theorem szGraph_ev (n : Int) (xs : List (List Int)) (hn : xs.length ≤ 9223372036854775807) (hi : ∀ y ∈ xs, y.length ≤ 9223372036854775807) : ∃ r, Ev (fun k => laws_szGraph.f k n xs 1048576) r ∧ (¬ r < 0 → xs.length ≤ 1048576 ∧ ∀ y ∈ xs, y.length ≤ 1048576) := by
  obtain ⟨r, hr, hok⟩ := szIntSS_ev xs hn hi
  unfold laws_szGraph.f
  by_cases h : r < 0
  · exact ⟨-1, Ev.bind hr (ev_pos h (Ev.now _)), by omega⟩
  · exact ⟨r, Ev.bind hr (ev_neg h (Ev.now _)), hok⟩
theorem toGraph_ev (n : Int) (xs : List (List Int)) (hn : xs.length ≤ 1048576) (hi : ∀ y ∈ xs, y.length ≤ 1048576) : Ev (fun k => laws_toGraph.f k n xs) (n, xs) := by
  unfold laws_toGraph.f
  exact Ev.bind (toIntSS_ev xs (by omega) (fun y hy => Nat.le_trans (hi y hy) (by decide))) (Ev.now _)
theorem eqGraph_same (n : Int) (xs : List (List Int)) (hn : xs.length ≤ 1048576) (hi : ∀ y ∈ xs, y.length ≤ 1048576) : Ev (fun k => laws_eqGraph.f k n xs n xs) true := by
  unfold laws_eqGraph.f
  exact ev_pos rfl (Ev.bind (eqIntSS_same xs (by omega) (fun y hy => Nat.le_trans (hi y hy) (by decide))) (ev_pos rfl (Ev.now _)))
def rowOk (h : Int) (r : List Int) : Bool := decide (r.length = 2 ∧ 0 ≤ rd r 0 ∧ rd r 0 ≤ h ∧ 0 ≤ rd r 1 ∧ rd r 1 ≤ h)
def lexLt (p r : List Int) : Bool := decide (rd p 0 < rd r 0 ∨ rd p 0 = rd r 0 ∧ rd p 1 < rd r 1)
def rowsOk (h : Int) : Option (List Int) → List (List Int) → Bool
  | _, [] => true
  | p, r :: rs => rowOk h r && ((match p with | none => true | some q => lexLt q r) && rowsOk h (some r) rs)
def isGraph (n : Int) (rs : List (List Int)) : Bool := decide (0 ≤ n ∧ n ≤ 10) && rowsOk (wrap64 (n - 1)) none rs
theorem isGraph_spec_l0 (n : Int) (xs : List (List Int)) (hn : xs.length ≤ 4611686018427387904) : ∀ (zs : List (List Int)) (i : Nat) (p : Option (List Int)), xs.drop i = zs → (i = 0 ∧ p = none ∨ ∃ q, p = some q ∧ 0 < i ∧ xs[i - 1]? = some q ∧ q.length = 2) → Ev (fun k => spec_IsGraph.l0 k (i : Int) n xs) (rowsOk (wrap64 (n - 1)) p zs && decide (0 ≤ n ∧ n ≤ 10)) := by
  intro zs
  induction zs with
  | nil =>
    intro i p h _
    have := at_end h
    refine Ev.step (fun k => by rw [spec_IsGraph.l0]) ?_
    refine ev_neg (by omega) (ev_bind0 (l1In_eq _ _ _) (ev_eq (Ev.now _) ?_))
    simp [rowsOk]
  | cons z zs ih =>
    intro i p h hp
    obtain ⟨hlt, hz, h2, _⟩ := at_drop h
    have hr : rd_L1 xs (i : Int) = z := getD_at hz
    refine Ev.step (fun k => by rw [spec_IsGraph.l0]) ?_
    refine ev_pos (by omega) (ev_pos (by omega) ?_)
    rw [hr]
    have bad : rowOk (wrap64 (n - 1)) z = false → Ev (fun k => spec_IsGraph.j1 k (i : Int) z true n xs) (rowsOk (wrap64 (n - 1)) p (z :: zs) && decide (0 ≤ n ∧ n ≤ 10)) := by
      intro hb
      refine Ev.step (fun k => by rw [spec_IsGraph.j1]) (ev_pos rfl (ev_eq (Ev.now _) ?_))
      simp [rowsOk, hb]
    refine ev_ite (fun e1 => ev_pos (by omega) (ev_bind0 (l1In_eq _ _ _) (ev_ite (fun e2 => ev_pos (by omega) (ev_bind0 (l1In_eq _ _ _) ?_)) (fun e2 => bad ?_)))) (fun e1 => bad ?_)
    · have e2 := of_decide_eq_true e2
      by_cases e3 : 0 ≤ rd z 1 ∧ rd z 1 ≤ wrap64 (n - 1)
      · have hok : rowOk (wrap64 (n - 1)) z = true := decide_eq_true ⟨by omega, e2.1, e2.2, e3.1, e3.2⟩
        have hl2 : z.length = 2 := by omega
        have ih2 := ih (i + 1) (some z) h2 (.inr ⟨z, rfl, by omega, hz, hl2⟩)
        rw [decide_eq_true e3]
        refine Ev.step (fun k => by rw [spec_IsGraph.j1]) (ev_neg (by decide) ?_)
        rw [wrap_id (x := (i : Int) + 1) (by omega) (by omega)]
        rcases hp with ⟨hi0, rfl⟩ | ⟨q, rfl, hi0, hq, hq2⟩
        · refine ev_neg (by omega) (ev_eq ih2 ?_)
          simp [rowsOk, hok]
        · have hr2 : rd_L1 xs ((i : Int) - 1) = q := by
            rw [show (i : Int) - 1 = ((i - 1 : Nat) : Int) by omega]
            exact getD_at hq
          rw [wrap_id (x := (i : Int) - 1) (by omega) (by omega), hr2]
          refine ev_pos (by omega) (ev_pos (by omega) (ev_pos (by omega) (ev_pos (by omega) (ev_pos (by omega) ?_))))
          refine ev_ite (fun e4 => ev_eq (Ev.now _) ?_) (fun e4 => ev_ite (fun e5 => ev_pos (by omega) (ev_pos (by omega) (ev_ite (fun e6 => ev_eq (Ev.now _) ?_) (fun e6 => ev_eq ih2 ?_)))) (fun e5 => ev_eq ih2 ?_))
          · have : lexLt q z = false := decide_eq_false (by omega)
            simp [rowsOk, this]
          · have : lexLt q z = false := decide_eq_false (by omega)
            simp [rowsOk, this]
          · have : lexLt q z = true := decide_eq_true (by omega)
            simp [rowsOk, this, hok]
          · have : lexLt q z = true := decide_eq_true (by omega)
            simp [rowsOk, this, hok]
      · rw [decide_eq_false e3]
        exact bad (decide_eq_false (by rintro ⟨_, _, _, h4, h5⟩; exact e3 ⟨h4, h5⟩))
    · have e2 : ¬ _ := fun h => e2 (decide_eq_true h)
      exact decide_eq_false (by rintro ⟨_, h2, h3, _⟩; exact e2 ⟨h2, h3⟩)
    · exact decide_eq_false (by rintro ⟨h1, _⟩; omega)
theorem isGraph_specB (n : Int) (xs : List (List Int)) (hn : xs.length ≤ 4611686018427387904) : Ev (fun k => spec_IsGraph.f k n xs) (isGraph n xs) := by
  unfold spec_IsGraph.f
  refine ev_eq (isGraph_spec_l0 n xs hn xs 0 none rfl (.inl ⟨rfl, rfl⟩)) ?_
  unfold isGraph
  exact Bool.and_comm _ _
theorem isGraph_spec (n : Int) (xs : List (List Int)) (hn : xs.length ≤ 1048576) : Ev (fun k => spec_IsGraph.f k n xs) (isGraph n xs) := isGraph_specB n xs (by omega)
theorem isGraph_n {n : Int} {xs : List (List Int)} (h : isGraph n xs = true) : 0 ≤ n ∧ n ≤ 10 := by
  unfold isGraph at h
  exact of_decide_eq_true (Bool.and_eq_true_iff.1 h).1
theorem rowsOk_mem {h : Int} : ∀ (rs : List (List Int)) (p : Option (List Int)), rowsOk h p rs = true → ∀ r ∈ rs, rowOk h r = true := by
  intro rs
  induction rs with
  | nil => intro p _ r hr; exact absurd hr (by simp)
  | cons a rs ih =>
    intro p hp r hr
    unfold rowsOk at hp
    simp only [Bool.and_eq_true] at hp
    rcases List.mem_cons.1 hr with rfl | hr
    · exact hp.1
    · exact ih (some a) hp.2.2 r hr
theorem isGraph_row {n : Int} {xs : List (List Int)} (h : isGraph n xs = true) {r : List Int} (hr : r ∈ xs) : r.length = 2 ∧ 0 ≤ rd r 0 ∧ rd r 0 ≤ n - 1 ∧ 0 ≤ rd r 1 ∧ rd r 1 ≤ n - 1 := by
  have hn := isGraph_n h
  unfold isGraph at h
  have := of_decide_eq_true (rowsOk_mem xs none (Bool.and_eq_true_iff.1 h).2 r hr)
  rw [wrap_id (by omega) (by omega)] at this
  exact this
theorem compare2 (a b c d : Int) : Ev (fun k => slices_Compare_int_int.f k [a, b] [c, d]) (if a < c then -1 else if a > c then 1 else if b < d then -1 else if b > d then 1 else 0) := by
  have hc : ∀ x y : Int, cmp_Compare_int.f x y = some (if x < y then -1 else if x > y then 1 else 0) := by
    intro x y
    unfold cmp_Compare_int.f cmp_isNaN_int.f
    simp only [bne_self_eq_false, Option.bind_some, Bool.false_eq_true, if_false]
    split
    · rfl
    · split <;> rfl
  have hl : ∀ x y : Int, (([x, y] : List Int).length : Int) = 2 := fun _ _ => rfl
  unfold slices_Compare_int_int.f
  refine Ev.step (fun k => by rw [slices_Compare_int_int.l0]) ?_
  rw [hl, hl]
  refine ev_pos (by omega) (ev_pos (by omega) (ev_pos (by omega) (ev_neg (by omega) (ev_pos (by omega) (ev_bind0 (hc _ _) ?_)))))
  rw [show rd [a, b] 0 = a from rfl, show rd [c, d] 0 = c from rfl]
  by_cases h1 : a < c
  · rw [if_pos h1, if_pos h1]
    exact ev_neg (by omega) (Ev.now _)
  · rw [if_neg h1, if_neg h1]
    by_cases h2 : a > c
    · rw [if_pos h2, if_pos h2]
      exact ev_neg (by omega) (Ev.now _)
    · rw [if_neg h2, if_neg h2]
      refine ev_pos rfl ?_
      rw [wrap_id (x := 0 + 1) (by omega) (by omega)]
      refine Ev.step (fun k => by rw [slices_Compare_int_int.l0]) ?_
      rw [hl, hl]
      refine ev_pos (by omega) (ev_pos (by omega) (ev_pos (by omega) (ev_neg (by omega) (ev_pos (by omega) (ev_bind0 (hc _ _) ?_)))))
      rw [show rd [a, b] (0 + 1) = b from rfl, show rd [c, d] (0 + 1) = d from rfl]
      by_cases h3 : b < d
      · rw [if_pos h3]
        exact ev_neg (by omega) (Ev.now _)
      · rw [if_neg h3]
        by_cases h4 : b > d
        · rw [if_pos h4]
          exact ev_neg (by omega) (Ev.now _)
        · rw [if_neg h4]
          refine ev_pos rfl ?_
          rw [wrap_id (x := 0 + 1 + 1) (by omega) (by omega)]
          refine Ev.step (fun k => by rw [slices_Compare_int_int.l0]) ?_
          rw [hl, hl]
          exact ev_neg (by omega) (ev_neg (by omega) (Ev.now _))
theorem two_of {r : List Int} (h : r.length = 2) : r = [rd r 0, rd r 1] := by
  match r, h with
  | [a, b], _ => rfl
theorem compare_rows (q z : List Int) (hq : q.length = 2) (hz : z.length = 2) : ∃ c : Int, Ev (fun k => slices_Compare_int_int.f k q z) c ∧ (c ≥ 0 ↔ lexLt q z = false) := by
  refine ⟨_, by rw [two_of hq, two_of hz]; exact compare2 _ _ _ _, ?_⟩
  unfold lexLt
  rw [decide_eq_false_iff_not]
  generalize rd q 0 = a
  generalize rd q 1 = b
  generalize rd z 0 = c
  generalize rd z 1 = d
  split
  · omega
  · split
    · omega
    · split
      · omega
      · split <;> omega
theorem isClaim_eq (n : Int) (xs : List (List Int)) (a : Int) : impl_isClaim.f n xs a = some (decide (0 ≤ a ∧ a ≤ wrap64 (n - 1))) := by
  unfold impl_isClaim.f
  rw [inRange_eq]
  rfl
theorem isGraph_impl_l0 (n : Int) (xs : List (List Int)) (hn : xs.length ≤ 4611686018427387904) : ∀ (zs : List (List Int)) (i : Nat) (p : Option (List Int)), xs.drop i = zs → (i = 0 ∧ p = none ∨ ∃ q, p = some q ∧ 0 < i ∧ xs[i - 1]? = some q ∧ q.length = 2) → Ev (fun k => impl_IsGraph.l0 k xs xs.length (i : Int) n xs) (rowsOk (wrap64 (n - 1)) p zs) := by
  intro zs
  induction zs with
  | nil =>
    intro i p h _
    have := at_end h
    refine Ev.step (fun k => by rw [impl_IsGraph.l0]) ?_
    exact ev_neg (by omega) (Ev.now _)
  | cons z zs ih =>
    intro i p h hp
    obtain ⟨hlt, hz, h2, _⟩ := at_drop h
    have hr : rd_L1 xs (i : Int) = z := getD_at hz
    refine Ev.step (fun k => by rw [impl_IsGraph.l0]) ?_
    refine ev_pos (by omega) (ev_pos (by omega) (ev_pos (by omega) ?_))
    rw [hr]
    have bad : rowOk (wrap64 (n - 1)) z = false → false = rowsOk (wrap64 (n - 1)) p (z :: zs) := by
      intro hb
      simp [rowsOk, hb]
    refine ev_ite (fun e1 => ev_pos (by omega) (ev_bind0 (isClaim_eq _ _ _) (ev_ite (fun e2 => ev_pos (by omega) (ev_bind0 (isClaim_eq _ _ _) (ev_ite (fun e3 => ?_) (fun e3 => ev_eq (Ev.now _) (bad ?_))))) (fun e2 => ev_eq (Ev.now _) (bad ?_))))) (fun e1 => ev_eq (Ev.now _) (bad ?_))
    · have e2 := of_decide_eq_true e2
      have e3 := of_decide_eq_true e3
      have hok : rowOk (wrap64 (n - 1)) z = true := decide_eq_true ⟨by omega, e2.1, e2.2, e3.1, e3.2⟩
      have hl2 : z.length = 2 := by omega
      have ih2 := ih (i + 1) (some z) h2 (.inr ⟨z, rfl, by omega, hz, hl2⟩)
      rw [wrap_id (x := (i : Int) + 1) (by omega) (by omega)]
      rcases hp with ⟨hi0, rfl⟩ | ⟨q, rfl, hi0, hq, hq2⟩
      · refine ev_neg (by omega) (ev_eq ih2 ?_)
        simp [rowsOk, hok]
      · have hr2 : rd_L1 xs ((i : Int) - 1) = q := by
          rw [show (i : Int) - 1 = ((i - 1 : Nat) : Int) by omega]
          exact getD_at hq
        rw [wrap_id (x := (i : Int) - 1) (by omega) (by omega), hr2]
        obtain ⟨c, hc, hc2⟩ := compare_rows q z hq2 hl2
        refine ev_pos (by omega) (ev_pos (by omega) (ev_pos (by omega) (Ev.bind hc (ev_ite (fun e4 => ev_eq (Ev.now _) ?_) (fun e4 => ev_eq ih2 ?_)))))
        · have := hc2.1 e4
          simp [rowsOk, this]
        · have : lexLt q z = true := by
            cases hl : lexLt q z with
            | true => rfl
            | false => exact absurd (hc2.2 hl) e4
          simp [rowsOk, this, hok]
    · have e3 : ¬ _ := fun h => e3 (decide_eq_true h)
      exact decide_eq_false (by rintro ⟨_, _, _, h4, h5⟩; exact e3 ⟨h4, h5⟩)
    · have e2 : ¬ _ := fun h => e2 (decide_eq_true h)
      exact decide_eq_false (by rintro ⟨_, h2, h3, _⟩; exact e2 ⟨h2, h3⟩)
    · exact decide_eq_false (by rintro ⟨h1, _⟩; omega)
theorem isGraph_implB (n : Int) (xs : List (List Int)) (hn : xs.length ≤ 4611686018427387904) : Ev (fun k => impl_IsGraph.f k n xs) (isGraph n xs) := by
  unfold impl_IsGraph.f isGraph
  refine ev_bind0 (inRange_eq _ _ _) (ev_ite (fun e => ?_) (fun e => ev_eq (Ev.now _) ?_))
  · rw [e, Bool.true_and]
    exact isGraph_impl_l0 n xs hn xs 0 none rfl (.inl ⟨rfl, rfl⟩)
  · rw [show decide (0 ≤ n ∧ n ≤ 10) = false by simpa using e, Bool.false_and]
theorem isGraph_impl (n : Int) (xs : List (List Int)) (hn : xs.length ≤ 1048576) : Ev (fun k => impl_IsGraph.f k n xs) (isGraph n xs) := isGraph_implB n xs (by omega)
def victims (n : Int) (xs : List (List Int)) (a : Int) : List Int := if isGraph n xs then (xs.filter fun r => decide (rd r 0 = a)).map fun r => rd r 1 else []
def attackers (n : Int) (xs : List (List Int)) (a : Int) : List Int := if isGraph n xs then (xs.filter fun r => decide (rd r 1 = a)).map fun r => rd r 0 else []
def does (n : Int) (xs : List (List Int)) (a b : Int) : Bool := isGraph n xs && xs.any fun r => decide (rd r 0 = a ∧ rd r 1 = b)
theorem victims_length (n : Int) (xs : List (List Int)) (a : Int) : (victims n xs a).length ≤ xs.length := by
  unfold victims
  split
  · rw [List.length_map]; exact List.length_filter_le _ _
  · simp
theorem attackers_length (n : Int) (xs : List (List Int)) (a : Int) : (attackers n xs a).length ≤ xs.length := by
  unfold attackers
  split
  · rw [List.length_map]; exact List.length_filter_le _ _
  · simp
theorem victims_mem (n : Int) (xs : List (List Int)) (a b : Int) : decide (b ∈ victims n xs a) = does n xs a b := by
  rw [Bool.eq_iff_iff, decide_eq_true_eq]
  unfold victims does
  cases isGraph n xs with
  | false => simp
  | true =>
    rw [if_pos rfl, Bool.true_and, List.any_eq_true, List.mem_map]
    constructor
    · rintro ⟨r, hr, rfl⟩
      rw [List.mem_filter] at hr
      exact ⟨r, hr.1, decide_eq_true ⟨of_decide_eq_true hr.2, rfl⟩⟩
    · rintro ⟨r, hr, h⟩
      have h := of_decide_eq_true h
      exact ⟨r, List.mem_filter.2 ⟨hr, decide_eq_true h.1⟩, h.2⟩
theorem does_range {n : Int} {xs : List (List Int)} {a b : Int} (h : does n xs a b = true) : 0 ≤ a ∧ a ≤ n - 1 ∧ 0 ≤ b ∧ b ≤ n - 1 := by
  unfold does at h
  rw [Bool.and_eq_true, List.any_eq_true] at h
  obtain ⟨hg, r, hr, h2⟩ := h
  have h2 := of_decide_eq_true h2
  have := isGraph_row hg hr
  rw [h2.1, h2.2] at this
  exact ⟨this.2.1, this.2.2.1, this.2.2.2.1, this.2.2.2.2⟩
theorem attackers_l0 (n : Int) (xs : List (List Int)) (a : Int) (hg : isGraph n xs = true) (hn : xs.length ≤ 1048576) : ∀ (zs : List (List Int)) (i : Nat) (acc : List Int), xs.drop i = zs → acc.length ≤ i → Ev (fun k => impl_AttackersOf.l0 k a acc xs xs.length (i : Int)) (acc ++ (zs.filter fun r => decide (rd r 1 = a)).map fun r => rd r 0) := by
  intro zs
  induction zs with
  | nil =>
    intro i acc h _
    have := at_end h
    refine Ev.step (fun k => by rw [impl_AttackersOf.l0]) ?_
    exact ev_neg (by omega) (ev_eq (Ev.now _) (by simp))
  | cons z zs ih =>
    intro i acc h hl
    obtain ⟨hlt, hz, h2, _⟩ := at_drop h
    have hr : rd_L1 xs (i : Int) = z := getD_at hz
    have hg := isGraph_row hg (List.mem_of_getElem? hz)
    refine Ev.step (fun k => by rw [impl_AttackersOf.l0]) ?_
    rw [hr, wrap_id (x := (i : Int) + 1) (by omega) (by omega)]
    refine ev_pos (by omega) (ev_pos (by omega) (ev_pos (by omega) (ev_pos (by omega) (ev_ite (fun e2 => ev_pos (by omega) (ev_pos (by omega) (ev_eq (ih (i + 1) (acc ++ [rd z 0]) h2 (by first | (simp; done) | (simp; omega))) ?_))) (fun e2 => ev_eq (ih (i + 1) acc h2 (by omega)) ?_)))))
    · rw [List.filter_cons_of_pos (by simp [e2])]; simp
    · rw [List.filter_cons_of_neg (by simp [e2])]
theorem attackers_impl (n : Int) (xs : List (List Int)) (a : Int) (hn : xs.length ≤ 1048576) : Ev (fun k => impl_AttackersOf.f k n xs a) (attackers n xs a) := by
  unfold impl_AttackersOf.f attackers
  refine ev_bind0 rfl (Ev.bind (isGraph_impl n xs hn) (ev_ite (fun e => ?_) (fun e => ev_eq (Ev.now _) ?_)))
  · rw [if_pos e]
    exact attackers_l0 n xs a e hn xs 0 [] rfl (by simp)
  · rw [if_neg e]
theorem attackersS_l0 (n : Int) (xs : List (List Int)) (a : Int) (hn : xs.length ≤ 1048576) : ∀ (zs : List (List Int)) (i : Nat) (acc : List Int), xs.drop i = zs → acc.length ≤ i → Ev (fun k => spec_AttackersOf.l0 k a acc (i : Int) n xs) (acc ++ if isGraph n xs then (zs.filter fun r => decide (rd r 1 = a)).map fun r => rd r 0 else []) := by
  intro zs
  induction zs with
  | nil =>
    intro i acc h _
    have := at_end h
    refine Ev.step (fun k => by rw [spec_AttackersOf.l0]) ?_
    exact ev_neg (by omega) (Ev.step (fun k => by rw [spec_AttackersOf.j1]) (ev_neg (by decide) (ev_eq (Ev.now _) (by simp))))
  | cons z zs ih =>
    intro i acc h hl
    obtain ⟨hlt, hz, h2, _⟩ := at_drop h
    have hr : rd_L1 xs (i : Int) = z := getD_at hz
    refine Ev.step (fun k => by rw [spec_AttackersOf.l0]) ?_
    refine ev_pos (by omega) (Ev.bind (isGraph_spec n xs hn) (Ev.step (fun k => by rw [spec_AttackersOf.j1]) (ev_ite (fun e => ?_) (fun e => ev_eq (Ev.now _) ?_))))
    · have hg := isGraph_row e (List.mem_of_getElem? hz)
      rw [hr, wrap_id (x := (i : Int) + 1) (by omega) (by omega)]
      refine ev_pos (by omega) (ev_pos (by omega) (ev_pos (by omega) (ev_ite (fun e2 => ev_pos (by omega) (ev_pos (by omega) (ev_eq (ih (i + 1) (acc ++ [rd z 0]) h2 (by first | (simp; done) | (simp; omega))) ?_))) (fun e2 => ev_eq (ih (i + 1) acc h2 (by omega)) ?_))))
      · rw [if_pos e, if_pos e, List.filter_cons_of_pos (by simp [e2])]; simp
      · rw [if_pos e, if_pos e, List.filter_cons_of_neg (by simp [e2])]
    · rw [if_neg e, List.append_nil]
theorem attackers_spec (n : Int) (xs : List (List Int)) (a : Int) (hn : xs.length ≤ 1048576) : Ev (fun k => spec_AttackersOf.f k n xs a) (attackers n xs a) := by
  unfold spec_AttackersOf.f attackers
  exact attackersS_l0 n xs a hn xs 0 [] rfl (by simp)
def answers (n : Int) (xs : List (List Int)) (own : List Int) (a : Int) : List Int := (attackers n xs a).filter fun x => !decide (x ∈ own)
theorem answersS_l0 (own ys : List Int) (ho : own.length ≤ 9223372036854775807) (hn : ys.length ≤ 1048576) : ∀ (zs : List Int) (i : Nat) (acc : List Int), ys.drop i = zs → acc.length ≤ i → Ev (fun k => spec_AnswersTo.l0 k own acc ys (i : Int)) (acc ++ zs.filter fun x => !decide (x ∈ own)) := by
  intro zs
  induction zs with
  | nil =>
    intro i acc h _
    have := at_end h
    refine Ev.step (fun k => by rw [spec_AnswersTo.l0]) ?_
    exact ev_neg (by omega) (ev_eq (Ev.now _) (by simp))
  | cons z zs ih =>
    intro i acc h hl
    obtain ⟨hlt, hz, h2, _⟩ := at_drop h
    refine Ev.step (fun k => by rw [spec_AnswersTo.l0]) ?_
    rw [rd_get hz, wrap_id (x := (i : Int) + 1) (by omega) (by omega)]
    refine ev_pos (by omega) (ev_pos (by omega) (Ev.bind (l4Has_ev own z ho) (ev_ite (fun e2 => ev_eq (ih (i + 1) acc h2 (by omega)) ?_) (fun e2 => ev_pos (by omega) (ev_eq (ih (i + 1) (acc ++ [z]) h2 (by first | (simp; done) | (simp; omega))) ?_)))))
    · rw [List.filter_cons_of_neg (by simpa using e2)]
    · rw [List.filter_cons_of_pos (by simpa using e2)]; simp
theorem answers_spec (n : Int) (xs : List (List Int)) (own : List Int) (a : Int) (hn : xs.length ≤ 1048576) (ho : own.length ≤ 9223372036854775807) : Ev (fun k => spec_AnswersTo.f k n xs own a) (answers n xs own a) := by
  unfold spec_AnswersTo.f
  have := attackers_length n xs a
  exact Ev.bind (attackers_spec n xs a hn) (answersS_l0 own _ ho (by omega) _ 0 [] rfl (by simp))
theorem answersI_l0 (own ys : List Int) (ho : own.length ≤ 9223372036854775807) (hn : ys.length ≤ 1048576) : ∀ (zs : List Int) (i : Nat) (acc : List Int), ys.drop i = zs → acc.length ≤ i → Ev (fun k => impl_AnswersTo.l0 k own acc ys ys.length (i : Int)) (acc ++ zs.filter fun x => !decide (x ∈ own)) := by
  intro zs
  induction zs with
  | nil =>
    intro i acc h _
    have := at_end h
    refine Ev.step (fun k => by rw [impl_AnswersTo.l0]) ?_
    exact ev_neg (by omega) (ev_eq (Ev.now _) (by simp))
  | cons z zs ih =>
    intro i acc h hl
    obtain ⟨hlt, hz, h2, _⟩ := at_drop h
    refine Ev.step (fun k => by rw [impl_AnswersTo.l0]) ?_
    rw [rd_get hz, wrap_id (x := (i : Int) + 1) (by omega) (by omega)]
    refine ev_pos (by omega) (ev_pos (by omega) (ev_pos (by omega) (Ev.bind (containsInt_ev own z ho) (ev_ite (fun e2 => ev_eq (ih (i + 1) acc h2 (by omega)) ?_) (fun e2 => ev_pos (by omega) (ev_eq (ih (i + 1) (acc ++ [z]) h2 (by first | (simp; done) | (simp; omega))) ?_))))))
    · rw [List.filter_cons_of_neg (by simpa using e2)]
    · rw [List.filter_cons_of_pos (by simpa using e2)]; simp
theorem answers_impl (n : Int) (xs : List (List Int)) (own : List Int) (a : Int) (hn : xs.length ≤ 1048576) (ho : own.length ≤ 9223372036854775807) : Ev (fun k => impl_AnswersTo.f k n xs own a) (answers n xs own a) := by
  unfold impl_AnswersTo.f
  have := attackers_length n xs a
  exact Ev.bind (attackers_impl n xs a hn) (answersI_l0 own _ ho (by omega) _ 0 [] rfl (by simp))
/-- The claim n attacks each of these. -/
def newRows (n : Int) (cs : List Int) : List (List Int) := cs.map fun a => [n, a]
def inR (n a : Int) : Bool := decide (0 ≤ a ∧ a ≤ wrap64 (n - 1))
def withG (n : Int) (xs : List (List Int)) (cs : List Int) : Int × List (List Int) × Bool :=
  if isGraph n xs = true ∧ (cs.all (inR n)) = true ∧ isGraph (n + 1) (xs ++ newRows n cs) = true then (n + 1, xs ++ newRows n cs, true) else (n, xs, false)
theorem newRows_length (n : Int) (cs : List Int) : (newRows n cs).length = cs.length := by simp [newRows]
theorem rowsOk_tail {h : Int} : ∀ (xs ys : List (List Int)) (p : Option (List Int)), rowsOk h p (xs ++ ys) = true → ∃ q, rowsOk h q ys = true := by
  intro xs
  induction xs with
  | nil => intro ys p hp; exact ⟨p, hp⟩
  | cons x xs ih =>
    intro ys p hp
    rw [List.cons_append] at hp
    unfold rowsOk at hp
    simp only [Bool.and_eq_true] at hp
    exact ih ys _ hp.2.2
/-- Going up. -/
def upward : List Int → Bool
  | [] => true
  | [_] => true
  | a :: b :: r => decide (a < b) && upward (b :: r)
theorem newRows_up {h n : Int} : ∀ (cs : List Int) (q : Option (List Int)), rowsOk h q (newRows n cs) = true → upward cs = true := by
  intro cs
  induction cs with
  | nil => intro _ _; rfl
  | cons a cs ih =>
    intro q hq
    cases cs with
    | nil => rfl
    | cons b cs =>
      simp only [newRows, List.map_cons] at hq
      unfold rowsOk at hq
      simp only [Bool.and_eq_true] at hq
      have h2 := hq.2.2
      have h3 := ih (some [n, a]) (by simpa only [newRows, List.map_cons] using h2)
      unfold rowsOk at h2
      simp only [Bool.and_eq_true] at h2
      have h4 := of_decide_eq_true h2.2.1
      simp only [show rd [n, a] 0 = n from rfl, show rd [n, b] 0 = n from rfl, show rd [n, a] 1 = a from rfl, show rd [n, b] 1 = b from rfl] at h4
      unfold upward
      rw [h3, Bool.and_true]
      exact decide_eq_true (by omega)
theorem withG_up {n : Int} {xs : List (List Int)} {cs : List Int} (h : isGraph (n + 1) (xs ++ newRows n cs) = true) : upward cs = true := by
  unfold isGraph at h
  obtain ⟨q, hq⟩ := rowsOk_tail xs _ _ (Bool.and_eq_true_iff.1 h).2
  exact newRows_up cs q hq
theorem eqGraph_sameB (n : Int) (xs : List (List Int)) (hn : xs.length ≤ 9223372036854775807) (hi : ∀ y ∈ xs, y.length ≤ 9223372036854775807) : Ev (fun k => laws_eqGraph.f k n xs n xs) true := by
  unfold laws_eqGraph.f
  exact ev_pos rfl (Ev.bind (eqIntSS_same xs hn hi) (ev_pos rfl (Ev.now _)))
def lessC (c a : Int) : Int := if a > c then a - 1 else a
def aside (c : Int) (r : List Int) : Bool := decide (rd r 0 = c ∨ rd r 1 = c)
def dropRows (c : Int) : List (List Int) → List (List Int)
  | [] => []
  | r :: rs => if aside c r then dropRows c rs else [lessC c (rd r 0), lessC c (rd r 1)] :: dropRows c rs
theorem dropRows_cons (c : Int) (r : List Int) (rs : List (List Int)) : dropRows c (r :: rs) = if aside c r then dropRows c rs else [lessC c (rd r 0), lessC c (rd r 1)] :: dropRows c rs := rfl
def withoutG (n : Int) (xs : List (List Int)) (c : Int) : Int × List (List Int) × Bool :=
  if isGraph n xs = true ∧ (0 ≤ c ∧ c ≤ wrap64 (n - 1)) then (wrap64 (n - 1), dropRows c xs, true) else (n, xs, false)
theorem dropRows_size (c : Int) : ∀ xs : List (List Int), (dropRows c xs).length ≤ xs.length ∧ ∀ y ∈ dropRows c xs, y.length ≤ 1048576
  | [] => ⟨Nat.le_refl _, fun y hy => absurd hy (by simp [dropRows])⟩
  | r :: rs => by
    have ih := dropRows_size c rs
    unfold dropRows
    split
    · exact ⟨Nat.le_trans ih.1 (by simp), ih.2⟩
    · refine ⟨by simp; omega, fun y hy => ?_⟩
      rcases List.mem_cons.1 hy with rfl | h
      · show 2 ≤ 1048576
        omega
      · exact ih.2 y h
theorem withoutG_size (n : Int) (xs : List (List Int)) (c : Int) (hn : xs.length ≤ 1048576) (hi : ∀ y ∈ xs, y.length ≤ 1048576) : (withoutG n xs c).2.1.length ≤ 1048576 ∧ ∀ y ∈ (withoutG n xs c).2.1, y.length ≤ 1048576 := by
  unfold withoutG
  split
  · exact ⟨Nat.le_trans (dropRows_size c xs).1 hn, (dropRows_size c xs).2⟩
  · exact ⟨hn, hi⟩
theorem two {r : List Int} (h : r.length = 2) : r = [rd r 0, rd r 1] := by
  match r, h with
  | [a, b], _ => rfl
/-! the game of two: who used the claims of μ and said c last -/
theorem attackers_bd {n : Int} {xs : List (List Int)} {c q : Int} (h : q ∈ attackers n xs c) : 0 ≤ q ∧ q < n ∧ n ≤ 10 := by
  unfold attackers at h
  split at h
  · rename_i hg
    obtain ⟨r, hr, e⟩ := List.mem_map.1 h
    have h1 := isGraph_row hg (List.mem_filter.1 hr).1
    have h2 := isGraph_n hg
    omega
  · exact absurd h (by simp)
theorem w_bit0 (μ : Nat) (q : Int) (hμ : μ < 1024) (hq : 0 ≤ q ∧ q < 10) : (Go.bits .and .i64 (shr .i64 (μ : Int) q) 1 = 0) ↔ ¬ μ.testBit q.toNat = true := by
  obtain ⟨i, rfl⟩ : ∃ i : Nat, q = (i : Int) := ⟨q.toNat, by omega⟩
  have h1 : shr .i64 (μ : Int) (i : Int) = ((μ / 2 ^ i : Nat) : Int) := by
    unfold shr
    rw [Int.toNat_natCast, show min i IntKind.i64.bits = i from Nat.min_eq_left (by show i ≤ 64; omega)]
    simp
  have h2 : μ / 2 ^ i ≤ μ := Nat.div_le_self _ _
  have h3 : ∀ m : Nat, m < 1024 → Go.bits .and .i64 (m : Int) 1 = ((m % 2 : Nat) : Int) := by
    intro m hm
    show IntKind.i64.wrap ((BitVec.ofInt 64 (m : Int) &&& BitVec.ofInt 64 1).toNat : Int) = _
    have e : (BitVec.ofInt 64 (m : Int) &&& BitVec.ofInt 64 1).toNat = m % 2 := by
      rw [BitVec.ofInt_natCast, show BitVec.ofInt 64 1 = BitVec.ofNat 64 1 from rfl, BitVec.toNat_and, BitVec.toNat_ofNat, BitVec.toNat_ofNat, Nat.mod_eq_of_lt (show m < 2 ^ 64 by omega), Nat.mod_eq_of_lt (show 1 < 2 ^ 64 by decide), Nat.and_one_is_mod]
    rw [e]
    simp only [i64_w]
    exact wrap_id (x := ((m % 2 : Nat) : Int)) (by omega) (by omega)
  rw [h1, h3 _ (by omega), Int.toNat_natCast, Nat.testBit_eq_decide_div_mod_eq, decide_eq_true_eq]
  omega
theorem w_shl (q : Int) (hq : 0 ≤ q ∧ q < 10) : shl .i64 1 q = ((2 ^ q.toNat : Nat) : Int) := by
  have h : ∀ n : Fin 10, shl .i64 1 ((n.val : Nat) : Int) = ((2 ^ n.val : Nat) : Int) := by decide +kernel
  have := h ⟨q.toNat, by omega⟩
  rwa [show (((⟨q.toNat, by omega⟩ : Fin 10).val : Nat) : Int) = q by show (q.toNat : Int) = q; omega] at this
theorem w_pow (q : Int) (hq : 0 ≤ q ∧ q < 10) : 2 ^ q.toNat < 1024 := Nat.lt_of_lt_of_le (Nat.pow_lt_pow_right (a := 2) (by decide) (show q.toNat < 10 by omega)) (by decide)
theorem w_or (a b : Nat) (ha : a < 1024) (hb : b < 1024) : Go.bits .or .i64 (a : Int) (b : Int) = ((a ||| b : Nat) : Int) ∧ a ||| b < 1024 := by
  have hl : a ||| b < 1024 := Nat.or_lt_two_pow (n := 10) ha hb
  refine ⟨?_, hl⟩
  show IntKind.i64.wrap ((BitVec.ofInt 64 (a : Int) ||| BitVec.ofInt 64 (b : Int)).toNat : Int) = _
  have e : (BitVec.ofInt 64 (a : Int) ||| BitVec.ofInt 64 (b : Int)).toNat = a ||| b := by
    rw [BitVec.ofInt_natCast, BitVec.ofInt_natCast, BitVec.toNat_or, BitVec.toNat_ofNat, BitVec.toNat_ofNat, Nat.mod_eq_of_lt (show a < 2 ^ 64 by omega), Nat.mod_eq_of_lt (show b < 2 ^ 64 by omega)]
  rw [e]
  simp only [i64_w]
  exact wrap_id (x := ((a ||| b : Nat) : Int)) (by omega) (by omega)
theorem w_up (μ : Nat) (q : Nat) (h : ¬ μ.testBit q = true) : μ + 1 ≤ μ ||| 2 ^ q := by
  have h1 : μ ≤ μ ||| 2 ^ q := Nat.left_le_or
  rcases Nat.lt_or_ge μ (μ ||| 2 ^ q) with h2 | h2
  · exact h2
  · exact absurd (by have e : μ ||| 2 ^ q = μ := by omega
                     rw [← e, Nat.testBit_or, Nat.testBit_two_pow_self, Bool.or_true]) h
/-- Whether the one who proposed wins. -/
def winM (n : Int) (xs : List (List Int)) : Nat → Nat → Int → Bool
  | 0, _, _ => false
  | d + 1, μ, c => (attackers n xs c).all fun o => (attackers n xs o).any fun q => !μ.testBit q.toNat && winM n xs d (μ ||| 2 ^ q.toNat) q
theorem w_wf {x : Int} (h0 : -9223372036854775808 ≤ x) (h1 : x ≤ 9223372036854775807) : (Lit.int .i64 x).wf = true := by
  simp [Lit.wf, IntKind.min, IntKind.max, IntKind.bits, IntKind.signed]
  omega
theorem winsI_l1 (n : Int) (xs : List (List Int)) (μ : Nat) (hμ : μ < 1024) (t : List Int) (i : Int) (t2 : List Int) (ht2 : t2.length ≤ 1048576) (W : Int → Bool) (R : Bool) (hR : Ev (fun k => impl_wins.l0 k (μ : Int) true t t.length (wrap64 (i + 1)) n xs) R) (hW : ∀ q ∈ t2, (0 ≤ q ∧ q < 10) ∧ (¬ μ.testBit q.toNat = true → Ev (fun k => impl_wins.f k n xs (((μ ||| 2 ^ q.toNat : Nat)) : Int) q) (W q))) : ∀ (zs : List Int) (j : Nat), t2.drop j = zs → Ev (fun k => impl_wins.l1 k (μ : Int) true false t t.length i t2 t2.length (j : Int) n xs) (if (zs.any fun q => !μ.testBit q.toNat && W q) = true then R else false) := by
  intro zs
  induction zs with
  | nil =>
    intro j h
    have := at_end h
    refine Ev.step (fun k => by rw [impl_wins.l1]) (ev_neg (by omega) (ev_neg (by decide) (ev_eq (Ev.now _) ?_)))
    simp
  | cons z zs ih =>
    intro j h
    obtain ⟨hlt, hz, h2, _⟩ := at_drop h
    obtain ⟨hq, hw⟩ := hW z (List.mem_of_getElem? hz)
    refine Ev.step (fun k => by rw [impl_wins.l1]) ?_
    rw [rd_get hz, wrap_id (x := (j : Int) + 1) (by omega) (by omega), w_shl z hq, (w_or μ _ hμ (w_pow z hq)).1]
    refine ev_pos (by omega) (ev_pos (by omega) (ev_pos (by omega) (ev_pos hq.1 ?_)))
    rw [List.any_cons]
    refine ev_ite (fun e => ?_) (fun e => ?_)
    · have hb := (w_bit0 μ z hμ hq).1 e
      refine Ev.bind (hw hb) ?_
      rw [show (μ.testBit z.toNat) = false by simpa using hb, Bool.not_false, Bool.true_and]
      refine ev_ite (fun e2 => ?_) (fun e2 => ?_)
      · rw [e2, Bool.true_or, if_pos rfl]
        exact hR
      · rw [show W z = false by simpa using e2, Bool.false_or]
        exact ih (j + 1) h2
    · have hb : μ.testBit z.toNat = true := Decidable.of_not_not (fun hn => e ((w_bit0 μ z hμ hq).2 hn))
      rw [hb, Bool.not_true, Bool.false_and, Bool.false_or]
      exact ih (j + 1) h2
theorem winsI_l0 (n : Int) (xs : List (List Int)) (hn : xs.length ≤ 1048576) (μ : Nat) (hμ : μ < 1024) (t : List Int) (ht : t.length ≤ 1048576) (W : Int → Bool) (hW : ∀ q : Int, (0 ≤ q ∧ q < 10) → ¬ μ.testBit q.toNat = true → Ev (fun k => impl_wins.f k n xs (((μ ||| 2 ^ q.toNat : Nat)) : Int) q) (W q)) : ∀ (zs : List Int) (i : Nat), t.drop i = zs → Ev (fun k => impl_wins.l0 k (μ : Int) true t t.length (i : Int) n xs) (zs.all fun o => (attackers n xs o).any fun q => !μ.testBit q.toNat && W q) := by
  intro zs
  induction zs with
  | nil =>
    intro i h
    have := at_end h
    exact Ev.step (fun k => by rw [impl_wins.l0]) (ev_neg (by omega) (ev_eq (Ev.now _) (by simp)))
  | cons z zs ih =>
    intro i h
    obtain ⟨hlt, hz, h2, _⟩ := at_drop h
    have hal := attackers_length n xs z
    refine Ev.step (fun k => by rw [impl_wins.l0]) (ev_pos (by omega) (ev_pos (by omega) (ev_pos (by omega) ?_)))
    rw [rd_get hz]
    refine Ev.bind (attackers_impl n xs z hn) ?_
    have h1 : wrap64 ((i : Int) + 1) = ((i + 1 : Nat) : Int) := by rw [wrap_id (by omega) (by omega)]; omega
    refine ev_eq (winsI_l1 n xs μ hμ t (i : Int) _ (by omega) W _ (by rw [h1]; exact ih (i + 1) h2) (fun q hq => ⟨⟨(attackers_bd hq).1, by have := attackers_bd hq; omega⟩, hW q ⟨(attackers_bd hq).1, by have := attackers_bd hq; omega⟩⟩) _ 0 rfl) ?_
    rw [List.all_cons, List.drop_zero]
    generalize ((attackers n xs z).any fun q => !μ.testBit q.toNat && W q) = b
    cases b with
    | true => rw [if_pos rfl, Bool.true_and]
    | false => rw [if_neg (by decide), Bool.false_and]
theorem winsI (n : Int) (xs : List (List Int)) (hn : xs.length ≤ 1048576) : ∀ (d μ : Nat) (c : Int), (0 ≤ c ∧ c < 10) → μ < 1024 → 1024 ≤ d + μ → Ev (fun k => impl_wins.f k n xs (μ : Int) c) (winM n xs d μ c) := by
  intro d
  induction d with
  | zero => intro μ c hc h1 h2; omega
  | succ d ih =>
    intro μ c hc h1 h2
    have hal := attackers_length n xs c
    refine Ev.step (fun k => by rw [impl_wins.f]) (ev_pos (w_wf (by omega) (by omega)) (ev_pos (w_wf (by omega) (by omega)) (Ev.bind (attackers_impl n xs c hn) ?_)))
    exact winsI_l0 n xs hn μ h1 _ (by omega) (fun q => winM n xs d (μ ||| 2 ^ q.toNat) q) (fun q hq hb => ih _ _ hq (w_or μ _ h1 (w_pow q hq)).2 (by have := w_up μ q.toNat hb; omega)) _ 0 rfl
def bestM (n : Int) (xs : List (List Int)) (d μ : Nat) (o : Int) : Int := (((attackers n xs o).filter fun q => !μ.testBit q.toNat).find? fun q => winM n xs d (μ ||| 2 ^ q.toNat) q).getD (-1)
theorem bestM_neg (n : Int) (xs : List (List Int)) (d μ : Nat) (o : Int) : bestM n xs d μ o < 0 ↔ ((attackers n xs o).any fun q => !μ.testBit q.toNat && winM n xs d (μ ||| 2 ^ q.toNat) q) = false := by
  unfold bestM
  cases h : (((attackers n xs o).filter fun q => !μ.testBit q.toNat).find? fun q => winM n xs d (μ ||| 2 ^ q.toNat) q) with
  | none =>
    refine ⟨fun _ => ?_, fun _ => by simp⟩
    rw [List.any_eq_false]
    intro q hq
    have := List.find?_eq_none.1 h
    cases hb : μ.testBit q.toNat with
    | true => simp
    | false => simpa using this q (List.mem_filter.2 ⟨hq, by simp [hb]⟩)
  | some q =>
    have h1 := List.mem_filter.1 (List.mem_of_find?_eq_some h)
    have h2 := List.find?_some h
    have h3 := attackers_bd h1.1
    refine ⟨fun h4 => ?_, fun h4 => ?_⟩
    · simp only [Option.getD_some] at h4
      omega
    · rw [List.any_eq_false] at h4
      exact absurd (by rw [h1.2, h2]; rfl) (h4 q h1.1)
def usedM (n : Int) (used : List Int) (μ : Nat) : Prop := ∀ i : Nat, (i : Int) < n → ((i : Int) ∈ used ↔ μ.testBit i = true)
theorem usedM_snoc {n : Int} {used : List Int} {μ : Nat} (h : usedM n used μ) (q : Int) (hq : 0 ≤ q) : usedM n (used ++ [q]) (μ ||| 2 ^ q.toNat) := by
  intro i hi
  rw [List.mem_append, List.mem_singleton, Nat.testBit_or, Bool.or_eq_true, h i hi, Nat.testBit_two_pow, decide_eq_true_eq]
  refine or_congr_right ?_
  omega
theorem answers_usedM {n : Int} {xs : List (List Int)} {used : List Int} {μ : Nat} (h : usedM n used μ) (o : Int) : answers n xs used o = (attackers n xs o).filter fun q => !μ.testBit q.toNat := by
  unfold answers
  refine List.filter_congr (fun q hq => ?_)
  have h1 := attackers_bd hq
  have h2 := h q.toNat (by omega)
  rw [show ((q.toNat : Nat) : Int) = q by omega] at h2
  cases hb : μ.testBit q.toNat with
  | true => simp [h2.2 hb]
  | false => simp [show ¬ q ∈ used from fun hm => by rw [h2.1 hm] at hb; exact absurd hb (by simp)]
theorem bestS_l0 (n : Int) (xs : List (List Int)) (used t : List Int) (hu : used.length ≤ 1060000) (ht : t.length ≤ 1048576) (W : Int → Bool) (hW : ∀ q ∈ t, Ev (fun k => spec_l8Wins.f k n xs (used ++ [q]) q) (W q)) : ∀ (zs : List Int) (j : Nat), t.drop j = zs → Ev (fun k => spec_l8Best.l0 k used t (j : Int) n xs) ((zs.find? W).getD (-1)) := by
  intro zs
  induction zs with
  | nil =>
    intro j h
    have := at_end h
    exact Ev.step (fun k => by rw [spec_l8Best.l0]) (ev_neg (by omega) (ev_eq (Ev.now _) (by simp)))
  | cons z zs ih =>
    intro j h
    obtain ⟨hlt, hz, h2, _⟩ := at_drop h
    refine Ev.step (fun k => by rw [spec_l8Best.l0]) ?_
    rw [rd_get hz, wrap_id (x := (j : Int) + 1) (by omega) (by omega)]
    refine ev_pos (by omega) (ev_bind0 rfl (ev_pos (by first | (simp; done) | (simp; omega)) (ev_bind0 rfl (ev_pos (by omega) (ev_bind0 rfl (ev_pos (by first | (simp; done) | (simp; omega)) ?_))))))
    rw [List.nil_append]
    refine Ev.bind (hW z (List.mem_of_getElem? hz)) ?_
    rw [List.find?_cons]
    refine ev_ite (fun e => ?_) (fun e => ?_)
    · rw [e]
      exact Ev.now _
    · rw [show W z = false by simpa using e]
      exact ih (j + 1) h2
theorem bestS_of (n : Int) (xs : List (List Int)) (hn : xs.length ≤ 1048576) (d μ : Nat) (used : List Int) (hu : used.length ≤ 1060000) (hM : usedM n used μ) (o : Int) (hW : ∀ q : Int, (0 ≤ q ∧ q < 10) → ¬ μ.testBit q.toNat = true → Ev (fun k => spec_l8Wins.f k n xs (used ++ [q]) q) (winM n xs d (μ ||| 2 ^ q.toNat) q)) : Ev (fun k => spec_l8Best.f k n xs used o) (bestM n xs d μ o) := by
  have hal := attackers_length n xs o
  refine Ev.step (fun k => by rw [spec_l8Best.f]) (Ev.bind (answers_spec n xs used o hn (by omega)) ?_)
  rw [answers_usedM hM]
  have hlen := List.length_filter_le (fun q : Int => !μ.testBit q.toNat) (attackers n xs o)
  refine bestS_l0 n xs used _ hu (by omega) _ (fun q hq => ?_) _ 0 rfl
  have h1 := List.mem_filter.1 hq
  have h2 := attackers_bd h1.1
  exact hW q ⟨h2.1, by omega⟩ (by simpa using h1.2)
theorem winsS_l0 (n : Int) (xs : List (List Int)) (used t : List Int) (ht : t.length ≤ 1048576) (d μ : Nat) (hB : ∀ o, Ev (fun k => spec_l8Best.f k n xs used o) (bestM n xs d μ o)) : ∀ (zs : List Int) (i : Nat), t.drop i = zs → Ev (fun k => spec_l8Wins.l0 k used t (i : Int) n xs) (zs.all fun o => (attackers n xs o).any fun q => !μ.testBit q.toNat && winM n xs d (μ ||| 2 ^ q.toNat) q) := by
  intro zs
  induction zs with
  | nil =>
    intro i h
    have := at_end h
    exact Ev.step (fun k => by rw [spec_l8Wins.l0]) (ev_neg (by omega) (ev_eq (Ev.now _) (by simp)))
  | cons z zs ih =>
    intro i h
    obtain ⟨hlt, hz, h2, _⟩ := at_drop h
    refine Ev.step (fun k => by rw [spec_l8Wins.l0]) (ev_pos (by omega) (ev_pos (by omega) ?_))
    rw [rd_get hz, wrap_id (x := (i : Int) + 1) (by omega) (by omega)]
    refine Ev.bind (hB z) ?_
    rw [List.all_cons]
    refine ev_ite (fun e => ?_) (fun e => ?_)
    · rw [(bestM_neg n xs d μ z).1 e, Bool.false_and]
      exact Ev.now _
    · have h3 : ((attackers n xs z).any fun q => !μ.testBit q.toNat && winM n xs d (μ ||| 2 ^ q.toNat) q) = true := by
        rw [← Bool.not_eq_false]
        exact fun h4 => e ((bestM_neg n xs d μ z).2 h4)
      rw [h3, Bool.true_and]
      exact ih (i + 1) h2
theorem winsS (n : Int) (xs : List (List Int)) (hn : xs.length ≤ 1048576) : ∀ (d μ : Nat) (used : List Int) (c : Int), μ < 1024 → 1024 ≤ d + μ → used.length + d ≤ 1060000 → usedM n used μ → Ev (fun k => spec_l8Wins.f k n xs used c) (winM n xs d μ c) := by
  intro d
  induction d with
  | zero => intro μ used c h1 h2; omega
  | succ d ih =>
    intro μ used c h1 h2 h3 h4
    have hal := attackers_length n xs c
    refine Ev.step (fun k => by rw [spec_l8Wins.f]) (Ev.bind (attackers_spec n xs c hn) ?_)
    refine winsS_l0 n xs used _ (by omega) d μ (fun o => bestS_of n xs hn d μ used (by omega) h4 o (fun q hq hb => ?_)) _ 0 rfl
    exact ih _ _ _ (w_or μ _ h1 (w_pow q hq)).2 (by have := w_up μ q.toNat hb; omega) (by rw [List.length_append, List.length_singleton]; omega) (usedM_snoc h4 q hq.1)
theorem bestS (n : Int) (xs : List (List Int)) (hn : xs.length ≤ 1048576) (μ : Nat) (hμ : μ < 1024) (used : List Int) (hu : used.length ≤ 1048576) (hM : usedM n used μ) (o : Int) : Ev (fun k => spec_l8Best.f k n xs used o) (bestM n xs 1024 μ o) :=
  bestS_of n xs hn 1024 μ used (by omega) hM o (fun q hq hb => winsS n xs hn 1024 _ _ _ (w_or μ _ hμ (w_pow q hq)).2 (by omega) (by rw [List.length_append, List.length_singleton]; omega) (usedM_snoc hM q hq.1))
def maskV (n : Int) : List Int → Int → Int
  | [], m => m
  | z :: zs, m => if 0 ≤ z ∧ z ≤ wrap64 (n - 1) then maskV n zs (Go.bits .or .i64 m (shl .i64 1 z)) else maskV n zs m
theorem mask_l0 (n : Int) (xs : List (List Int)) (l : List Int) (hl : l.length ≤ 1048576) (c : Int) (R : Int) : ∀ (zs : List Int) (i : Nat) (m : Int), l.drop i = zs → Ev (fun k => (impl_AnswersTo.f k n xs l c).bind fun t => impl_BestAnswer.l1 k (maskV n zs m) t (t.length : Int) 0 n xs) R → Ev (fun k => impl_BestAnswer.l0 k l c m l l.length (i : Int) n xs) R := by
  intro zs
  induction zs with
  | nil =>
    intro i m h hR
    have := at_end h
    unfold maskV at hR
    exact Ev.step (fun k => by rw [impl_BestAnswer.l0]) (ev_neg (by omega) hR)
  | cons z zs ih =>
    intro i m h hR
    obtain ⟨hlt, hz, h2, _⟩ := at_drop h
    refine Ev.step (fun k => by rw [impl_BestAnswer.l0]) (ev_pos (by omega) (ev_pos (by omega) (ev_pos (by omega) ?_)))
    rw [rd_get hz, wrap_id (x := (i : Int) + 1) (by omega) (by omega), isClaim_eq]
    unfold maskV at hR
    refine ev_bind0 rfl (ev_ite (fun e => ?_) (fun e => ?_))
    · have e2 : 0 ≤ z ∧ z ≤ wrap64 (n - 1) := by simpa using e
      rw [if_pos e2] at hR
      exact ev_pos e2.1 (ih (i + 1) _ h2 hR)
    · rw [if_neg (by simpa using e)] at hR
      exact ih (i + 1) _ h2 hR
theorem maskV_graph (n : Int) (hn : 0 ≤ n ∧ n ≤ 10) : ∀ (zs : List Int) (μ : Nat), μ < 1024 → ∃ ν : Nat, ν < 1024 ∧ maskV n zs (μ : Int) = (ν : Int) ∧ ∀ i : Nat, (i : Int) < n → (ν.testBit i = true ↔ (μ.testBit i = true ∨ (i : Int) ∈ zs)) := by
  intro zs
  induction zs with
  | nil => exact fun μ h => ⟨μ, h, rfl, fun i _ => by simp⟩
  | cons z zs ih =>
    intro μ h
    unfold maskV
    rw [wrap_id (x := n - 1) (by omega) (by omega)]
    by_cases hz : 0 ≤ z ∧ z ≤ n - 1
    · have hz2 : 0 ≤ z ∧ z < 10 := by omega
      obtain ⟨h3, h4⟩ := w_or μ _ h (w_pow z hz2)
      rw [if_pos hz, w_shl z hz2, h3]
      obtain ⟨ν, h5, h6, h7⟩ := ih _ h4
      refine ⟨ν, h5, h6, fun i hi => ?_⟩
      rw [h7 i hi, Nat.testBit_or, Bool.or_eq_true, Nat.testBit_two_pow, decide_eq_true_eq, List.mem_cons]
      have : z.toNat = i ↔ (i : Int) = z := by omega
      rw [this, or_assoc]
    · rw [if_neg hz]
      obtain ⟨ν, h5, h6, h7⟩ := ih μ h
      refine ⟨ν, h5, h6, fun i hi => ?_⟩
      rw [h7 i hi, List.mem_cons]
      have : ¬ (i : Int) = z := by omega
      simp [this]
theorem bestI_l1 (n : Int) (xs : List (List Int)) (hn : xs.length ≤ 1048576) (ν : Nat) (hν : ν < 1024) (t : List Int) (ht : t.length ≤ 1048576) (hq : ∀ q ∈ t, 0 ≤ q ∧ q < 10) : ∀ (zs : List Int) (j : Nat), t.drop j = zs → Ev (fun k => impl_BestAnswer.l1 k (ν : Int) t t.length (j : Int) n xs) ((zs.find? fun q => winM n xs 1024 (ν ||| 2 ^ q.toNat) q).getD (-1)) := by
  intro zs
  induction zs with
  | nil =>
    intro j h
    have := at_end h
    exact Ev.step (fun k => by rw [impl_BestAnswer.l1]) (ev_neg (by omega) (ev_eq (Ev.now _) (by simp)))
  | cons z zs ih =>
    intro j h
    obtain ⟨hlt, hz, h2, _⟩ := at_drop h
    have hz2 := hq z (List.mem_of_getElem? hz)
    obtain ⟨h3, h4⟩ := w_or ν _ hν (w_pow z hz2)
    refine Ev.step (fun k => by rw [impl_BestAnswer.l1]) ?_
    rw [rd_get hz, wrap_id (x := (j : Int) + 1) (by omega) (by omega), w_shl z hz2, h3]
    refine ev_pos (by omega) (ev_pos (by omega) (ev_pos (by omega) (ev_pos hz2.1 (Ev.bind (winsI n xs hn 1024 _ z hz2 h4 (Nat.le_add_right _ _)) ?_))))
    rw [List.find?_cons]
    refine ev_ite (fun e => ?_) (fun e => ?_)
    · rw [e]
      exact Ev.now _
    · rw [show winM n xs 1024 (ν ||| 2 ^ z.toNat) z = false by simpa using e]
      exact ih (j + 1) h2
theorem best_impl (n : Int) (xs : List (List Int)) (hn : xs.length ≤ 1048576) (l : List Int) (hl : l.length ≤ 1048576) (c : Int) : ∃ ν : Nat, ν < 1024 ∧ (isGraph n xs = true → ∀ i : Nat, (i : Int) < n → ((i : Int) ∈ l ↔ ν.testBit i = true)) ∧ Ev (fun k => impl_BestAnswer.f k n xs l c) (((answers n xs l c).find? fun q => winM n xs 1024 (ν ||| 2 ^ q.toNat) q).getD (-1)) := by
  have hal := attackers_length n xs c
  have hll : (answers n xs l c).length ≤ 1048576 := Nat.le_trans (List.length_filter_le _ _) (by omega)
  unfold impl_BestAnswer.f
  by_cases hg : isGraph n xs = true
  · obtain ⟨ν, h1, h2, h3⟩ := maskV_graph n (isGraph_n hg) l 0 (by omega)
    refine ⟨ν, h1, fun _ i hi => ?_, mask_l0 n xs l hl c _ l 0 0 rfl (Ev.bind (answers_impl n xs l c hn (by omega)) ?_)⟩
    · rw [h3 i hi]
      simp
    · rw [show ((0 : Nat) : Int) = 0 from rfl] at h2
      rw [h2]
      refine bestI_l1 n xs hn ν h1 _ hll (fun q hq => ?_) _ 0 rfl
      have := attackers_bd (List.mem_filter.1 hq).1
      omega
  · have ha : answers n xs l c = [] := by
      unfold answers attackers
      rw [if_neg hg]
      rfl
    refine ⟨0, by omega, fun h => absurd h hg, mask_l0 n xs l hl c _ l 0 0 rfl (Ev.bind (answers_impl n xs l c hn (by omega)) ?_)⟩
    rw [ha]
    exact Ev.step (fun k => by rw [impl_BestAnswer.l1]) (ev_neg (by simp) (ev_eq (Ev.now _) (by simp)))
theorem best_spec (n : Int) (xs : List (List Int)) (hn : xs.length ≤ 1048576) (l : List Int) (hl : l.length ≤ 1048576) (c : Int) (ν : Nat) (hν : ν < 1024) (hM : isGraph n xs = true → ∀ i : Nat, (i : Int) < n → ((i : Int) ∈ l ↔ ν.testBit i = true)) : Ev (fun k => spec_BestAnswer.f k n xs l c) (((answers n xs l c).find? fun q => winM n xs 1024 (ν ||| 2 ^ q.toNat) q).getD (-1)) := by
  unfold spec_BestAnswer.f
  have hal := attackers_length n xs c
  by_cases hg : isGraph n xs = true
  · have h := bestS n xs hn ν hν l hl (hM hg) c
    unfold bestM at h
    rw [← answers_usedM (hM hg) c] at h
    exact Ev.bind h (Ev.now _)
  · have ha : answers n xs l c = [] := by
      unfold answers attackers
      rw [if_neg hg]
      rfl
    refine Ev.bind (Ev.step (fun k => by rw [spec_l8Best.f]) (Ev.bind (answers_spec n xs l c hn (by omega)) ?_)) (Ev.now _)
    rw [ha]
    exact Ev.step (fun k => by rw [spec_l8Best.l0]) (ev_neg (by simp) (ev_eq (Ev.now _) (by simp)))

theorem FnExactBestAnswer (a0_0 : Int) (g0_0 : (Lit.int .i64 a0_0).wf = true) (l0_1 : List (List (Int))) (g0_1 : l0_1.length ≤ 9223372036854775807 ∧ ∀ y ∈ l0_1, y.length ≤ 9223372036854775807 ∧ ∀ z ∈ y, (Lit.int .i64 z).wf = true) (l1 : List Int) (g1 : l1.length ≤ 9223372036854775807 ∧ ∀ y ∈ l1, (Lit.int .i64 y).wf = true) (a2 : Int) (g2 : (Lit.int .i64 a2).wf = true) : ∃ k, laws_FnExactBestAnswer.f k a0_0 l0_1 l1 a2 = some true := by
  refine Ev.rounds (g := fun k => laws_FnExactBestAnswer.f k a0_0 l0_1 l1 a2) ?_
  unfold laws_FnExactBestAnswer.f
  refine ev_ite (fun _ => Ev.now _) (fun hm => ?_)
  obtain ⟨r, hr, hok⟩ := szGraph_ev a0_0 l0_1 g0_1.1 (fun y hy => (g0_1.2 y hy).1)
  refine Ev.bind hr (ev_ite (fun _ => Ev.now _) (fun h0 => ?_))
  obtain ⟨hn, hi⟩ := hok h0
  have hG := toGraph_ev a0_0 l0_1 hn hi
  have hT := toIntS_ev l1 (by omega)
  obtain ⟨ν, h1, h2, h3⟩ := best_impl a0_0 l0_1 hn l1 (by omega) a2
  refine Ev.bind hG (Ev.bind hT ?_)
  dsimp only
  refine Ev.bind (best_spec a0_0 l0_1 hn l1 (by omega) a2 ν h1 h2) (Ev.bind hG (Ev.bind hT ?_))
  dsimp only
  refine Ev.bind h3 (ev_pos rfl (Ev.bind hG ?_))
  dsimp only
  exact Ev.bind (eqGraph_same _ _ hn hi) (ev_pos rfl (Ev.bind hT (Ev.bind (eqIntS_same _ (by omega)) (ev_pos rfl (Ev.now _)))))

end Go.Proofs.Ytdlobolnajcfnaa.Pure
