/- The plain statement of the law FnExactCountLoops, for all numbers and lists. -/
import Derived.Test.YtkmhkkhlbnhaaaaPFnExactCountLoopsx0
import Derived.Test.YtkmhkkhlbnhaaaaPFnExactCountLoopsx1
import Derived.Test.YtkmhkkhlbnhaaaaPFnExactCountLoopsx2
import Derived.Test.YtkmhkkhlbnhaaaaPFnExactCountLoopsx3
import Derived.Test.YtkmhkkhlbnhaaaaPFnExactCountLoopsx4
import Derived.Test.YtkmhkkhlbnhaaaaPFnExactCountLoopsx5
import Derived.Test.YtkmhkkhlbnhaaaaBase
set_option linter.unusedVariables false
set_option linter.unusedSimpArgs false
namespace Go.Proofs.Ytkmhkkhlbnhaaaa.Pure
open Go.RowKit Go.Proofs.Ytkmhkkhlbnhaaaa.PFnExactCountLoops Go.Proofs.YtkmhkkhlbnhaaaaW.PrintWords Go.Proofs.YtkmhkkhlbnhaaaaW.PrintLast Go.Proofs.YtkmhkkhlbnhaaaaW.PrintMore Go.Proofs.Ytkmhkkhlbnhaaaa.Base
theorem toIntS_l0 (xs : List Int) (hn : xs.length ≤ 35184372088832) : ∀ (zs : List Int) (i : Nat) (ys : List Int), xs.drop i = zs → ys.length = xs.length → ys.take i = xs.take i → Ev (fun k => laws_toIntS.l0 k xs ys (i : Int)) xs := by
  intro zs
  induction zs with
  | nil =>
    intro i ys h hl ht
    have := at_end h
    refine Ev.step (fun k => by rw [laws_toIntS.l0]) (ev_neg (by omega) ?_)
    rw [List.take_of_length_le (by omega), List.take_of_length_le (by omega)] at ht
    rw [ht]
    exact Ev.now _
  | cons z zs ih =>
    intro i ys h hl ht
    obtain ⟨hi, hz, h', _⟩ := at_drop h
    refine Ev.step (fun k => by rw [laws_toIntS.l0]) (ev_pos (by omega) (ev_pos (by omega) (ev_pos (by omega) ?_)))
    rw [wrap_id (by omega) (by omega), Int.toNat_natCast, rd_get hz]
    exact ih (i + 1) _ h' (by simp [hl]) (by rw [take_set_at (by omega), take_at hz, ht])
theorem toIntS_ev (xs : List Int) (hn : xs.length ≤ 35184372088832) : Ev (fun k => laws_toIntS.f k xs) xs := by
  unfold laws_toIntS.f
  exact ev_pos (by omega) (ev_pos (by omega) (toIntS_l0 xs hn xs 0 _ rfl (by simp) (by simp)))
theorem eqIntS_l0 (xs ys : List Int) (hl : xs.length = ys.length) (hn : xs.length ≤ 9223372036854775807) : ∀ (zs us : List Int) (i : Nat), xs.drop i = zs → ys.drop i = us → Ev (fun k => laws_eqIntS.l0 k xs ys (i : Int)) (decide (zs = us)) := by
  intro zs
  induction zs with
  | nil =>
    intro us i h hu
    have := at_end h
    refine Ev.step (fun k => by rw [laws_eqIntS.l0]) (ev_neg (by omega) ?_)
    rw [List.drop_of_length_le (by omega)] at hu
    subst hu
    exact ev_eq (Ev.now _) (by simp)
  | cons z zs ih =>
    intro us i h hu
    obtain ⟨hi, hz, h', _⟩ := at_drop h
    cases us with
    | nil => have := at_end hu; omega
    | cons u us =>
      obtain ⟨_, hzu, hu', _⟩ := at_drop hu
      refine Ev.step (fun k => by rw [laws_eqIntS.l0]) (ev_pos (by omega) (ev_pos (by omega) (ev_pos (by omega) ?_)))
      rw [wrap_id (by omega) (by omega), rd_get hz, rd_get hzu]
      refine ev_ite (fun e => ev_eq (ih us (i + 1) h' hu') (by simp [e])) (fun e => ev_eq (Ev.now _) (by simp [e]))
theorem eqIntS_ev (xs ys : List Int) (hn : xs.length ≤ 9223372036854775807) : Ev (fun k => laws_eqIntS.f k xs ys) (decide (xs = ys)) := by
  unfold laws_eqIntS.f
  refine ev_ite (fun e => eqIntS_l0 xs ys (by omega) hn xs ys 0 rfl rfl) (fun e => ev_eq (Ev.now _) ?_)
  have : xs ≠ ys := by rintro rfl; exact e rfl
  simp [this]
theorem eqIntS_same (xs : List Int) (hn : xs.length ≤ 9223372036854775807) : Ev (fun k => laws_eqIntS.f k xs xs) true := ev_eq (eqIntS_ev xs xs hn) (by simp)
theorem l1In_eq (x a b : Int) : spec_l1In.f x a b = some (decide (a ≤ x ∧ x ≤ b)) := by
  unfold spec_l1In.f
  by_cases h : a ≤ x <;> simp [h]
theorem inRange_eq (x a b : Int) : impl_InRange.f x a b = some (decide (a ≤ x ∧ x ≤ b)) := by
  unfold impl_InRange.f
  by_cases h : a ≤ x <;> simp [h]

theorem toIntSS_l0 (xs : List (List Int)) (hn : xs.length ≤ 11728124029610) (hi : ∀ y ∈ xs, y.length ≤ 35184372088832) : ∀ (zs : List (List Int)) (i : Nat) (ys : List (List Int)), xs.drop i = zs → ys.length = xs.length → ys.take i = xs.take i → Ev (fun k => laws_toIntSS.l0 k xs ys (i : Int)) xs := by
  intro zs
  induction zs with
  | nil =>
    intro i ys h hl ht
    have := at_end h
    refine Ev.step (fun k => by rw [laws_toIntSS.l0]) ?_
    refine ev_neg (by omega) ?_
    rw [List.take_of_length_le (by omega), List.take_of_length_le (by omega)] at ht
    rw [ht]
    exact Ev.now _
  | cons z zs ih =>
    intro i ys h hl ht
    obtain ⟨hlt, hz, h2, _⟩ := at_drop h
    have hr : rd_L1 xs (i : Int) = z := getD_at hz
    have hm : z ∈ xs := List.mem_of_getElem? hz
    refine Ev.step (fun k => by rw [laws_toIntSS.l0]) ?_
    refine ev_pos (by omega) (ev_pos (by omega) ?_)
    rw [hr]
    refine Ev.bind (toIntS_ev z (hi z hm)) (ev_pos (by omega) ?_)
    rw [wrap_id (by omega) (by omega), Int.toNat_natCast]
    exact ih (i + 1) _ h2 (by simp [hl]) (by rw [take_set_at (by omega), take_at hz, ht])
theorem toIntSS_ev (xs : List (List Int)) (hn : xs.length ≤ 11728124029610) (hi : ∀ y ∈ xs, y.length ≤ 35184372088832) : Ev (fun k => laws_toIntSS.f k xs) xs := by
  unfold laws_toIntSS.f
  exact ev_pos (by omega) (ev_pos (by omega) (toIntSS_l0 xs hn hi xs 0 _ rfl (by simp) (by simp)))
theorem eqIntSS_l0 (xs ys : List (List Int)) (hl : xs.length = ys.length) (hn : xs.length ≤ 9223372036854775807) (hi : ∀ y ∈ xs, y.length ≤ 9223372036854775807) : ∀ (zs us : List (List Int)) (i : Nat), xs.drop i = zs → ys.drop i = us → Ev (fun k => laws_eqIntSS.l0 k xs ys (i : Int)) (decide (zs = us)) := by
  intro zs
  induction zs with
  | nil =>
    intro us i h hu
    have := at_end h
    refine Ev.step (fun k => by rw [laws_eqIntSS.l0]) ?_
    rw [List.drop_of_length_le (by omega)] at hu
    subst hu
    exact ev_neg (by omega) (ev_eq (Ev.now _) (by simp))
  | cons z zs ih =>
    intro us i h hu
    obtain ⟨hlt, hz, h2, _⟩ := at_drop h
    cases us with
    | nil => have := at_end hu; omega
    | cons u us =>
      obtain ⟨_, hzu, hu2, _⟩ := at_drop hu
      have hr : rd_L1 xs (i : Int) = z := getD_at hz
      have hr2 : rd_L1 ys (i : Int) = u := getD_at hzu
      refine Ev.step (fun k => by rw [laws_eqIntSS.l0]) ?_
      refine ev_pos (by omega) (ev_pos (by omega) (ev_pos (by omega) ?_))
      rw [wrap_id (by omega) (by omega), hr, hr2]
      refine Ev.bind (eqIntS_ev z u (hi z (List.mem_of_getElem? hz))) (ev_ite (fun e => ev_eq (ih us (i + 1) h2 hu2) ?_) (fun e => ev_eq (Ev.now _) ?_))
      · simp only [decide_eq_true_eq] at e
        simp [e]
      · simp only [decide_eq_true_eq] at e
        simp [e]
theorem eqIntSS_ev (xs ys : List (List Int)) (hn : xs.length ≤ 9223372036854775807) (hi : ∀ y ∈ xs, y.length ≤ 9223372036854775807) : Ev (fun k => laws_eqIntSS.f k xs ys) (decide (xs = ys)) := by
  unfold laws_eqIntSS.f
  refine ev_ite (fun e => eqIntSS_l0 xs ys (by omega) hn hi xs ys 0 rfl rfl) (fun e => ev_eq (Ev.now _) ?_)
  have : xs ≠ ys := by rintro rfl; exact e rfl
  simp [this]
theorem eqIntSS_same (xs : List (List Int)) (hn : xs.length ≤ 9223372036854775807) (hi : ∀ y ∈ xs, y.length ≤ 9223372036854775807) : Ev (fun k => laws_eqIntSS.f k xs xs) true := ev_eq (eqIntSS_ev xs xs hn hi) (by simp)
theorem szIntS_eq (xs : List Int) (n : Int) (h0 : -9223372036854775808 + xs.length ≤ n) (h1 : n ≤ 9223372036854775807) : laws_szIntS.f xs n = some (if n - xs.length < 0 then -1 else n - xs.length) := by
  unfold laws_szIntS.f
  rw [wrap_id (by omega) (by omega)]
  split <;> rfl
theorem szIntSS_l0 (xs : List (List Int)) (hn : xs.length ≤ 9223372036854775807) (hi : ∀ y ∈ xs, y.length ≤ 9223372036854775807) : ∀ (zs : List (List Int)) (i : Nat) (n : Int), xs.drop i = zs → 0 ≤ n → n ≤ 1048576 → ∃ r, Ev (fun k => laws_szIntSS.l0 k xs n (i : Int)) r ∧ (¬ r < 0 → ∀ y ∈ zs, y.length ≤ 1048576) := by
  intro zs
  induction zs with
  | nil =>
    intro i n h _ _
    have := at_end h
    refine ⟨n, Ev.step (fun k => by rw [laws_szIntSS.l0]) ?_, by simp⟩
    exact ev_neg (by omega) (Ev.now _)
  | cons z zs ih =>
    intro i n h h0 h1
    obtain ⟨hlt, hz, h2, _⟩ := at_drop h
    have hr : rd_L1 xs (i : Int) = z := getD_at hz
    have hm := hi z (List.mem_of_getElem? hz)
    by_cases hs : n - (z.length : Int) < 0
    · refine ⟨-1, Ev.step (fun k => by rw [laws_szIntSS.l0]) ?_, by omega⟩
      refine ev_pos (by omega) (ev_pos (by omega) ?_)
      rw [hr]
      refine ev_bind0 (szIntS_eq z n (by omega) (by omega)) ?_
      rw [if_pos hs]
      exact ev_pos (by omega) (Ev.now _)
    · obtain ⟨r, hev, hall⟩ := ih (i + 1) (n - z.length) h2 (by omega) (by omega)
      refine ⟨r, Ev.step (fun k => by rw [laws_szIntSS.l0]) ?_, fun hr0 y hy => ?_⟩
      · refine ev_pos (by omega) (ev_pos (by omega) ?_)
        rw [hr]
        refine ev_bind0 (szIntS_eq z n (by omega) (by omega)) ?_
        rw [if_neg hs, wrap_id (by omega) (by omega)]
        exact ev_neg (by omega) hev
      · rcases List.mem_cons.1 hy with rfl | hy
        · omega
        · exact hall hr0 y hy
theorem szIntSS_ev (xs : List (List Int)) (hn : xs.length ≤ 9223372036854775807) (hi : ∀ y ∈ xs, y.length ≤ 9223372036854775807) : ∃ r, Ev (fun k => laws_szIntSS.f k xs 1048576) r ∧ (¬ r < 0 → xs.length ≤ 1048576 ∧ ∀ y ∈ xs, y.length ≤ 1048576) := by
  unfold laws_szIntSS.f
  by_cases hs : (1048576 : Int) - xs.length < 0
  · refine ⟨-1, ?_, by omega⟩
    rw [wrap_id (by omega) (by omega)]
    exact ev_pos hs (Ev.now _)
  · obtain ⟨r, hev, hall⟩ := szIntSS_l0 xs hn hi xs 0 (1048576 - xs.length) rfl (by omega) (by omega)
    refine ⟨r, ?_, fun h => ⟨by omega, hall h⟩⟩
    rw [wrap_id (by omega) (by omega)]
    exact ev_neg hs hev

theorem szGraph_ev (n : Int) (xs : List (List Int)) (hn : xs.length ≤ 9223372036854775807) (hi : ∀ y ∈ xs, y.length ≤ 9223372036854775807) : ∃ r, Ev (fun k => laws_szGraph.f k n xs 1048576) r ∧ (¬ r < 0 → xs.length ≤ 1048576 ∧ ∀ y ∈ xs, y.length ≤ 1048576) := by
  obtain ⟨r, hr, hok⟩ := szIntSS_ev xs hn hi
  unfold laws_szGraph.f
  by_cases h : r < 0
  · exact ⟨-1, Ev.bind hr (ev_pos h (Ev.now _)), by omega⟩
  · exact ⟨r, Ev.bind hr (ev_neg h (Ev.now _)), hok⟩
theorem toGraph_ev (n : Int) (xs : List (List Int)) (hn : xs.length ≤ 1048576) (hi : ∀ y ∈ xs, y.length ≤ 1048576) : Ev (fun k => laws_toGraph.f k n xs) (n, xs) := by
  unfold laws_toGraph.f
  exact Ev.bind (toIntSS_ev xs (by omega) (fun y hy => Nat.le_trans (hi y hy) (by decide))) (Ev.now _)
theorem eqGraph_same (n : Int) (xs : List (List Int)) (hn : xs.length ≤ 1048576) (hi : ∀ y ∈ xs, y.length ≤ 1048576) : Ev (fun k => laws_eqGraph.f k n xs n xs) true := by
  unfold laws_eqGraph.f
  exact ev_pos rfl (Ev.bind (eqIntSS_same xs (by omega) (fun y hy => Nat.le_trans (hi y hy) (by decide))) (ev_pos rfl (Ev.now _)))
def rowOk (h : Int) (r : List Int) : Bool := decide (r.length = 2 ∧ 0 ≤ rd r 0 ∧ rd r 0 ≤ h ∧ 0 ≤ rd r 1 ∧ rd r 1 ≤ h)
def lexLt (p r : List Int) : Bool := decide (rd p 0 < rd r 0 ∨ rd p 0 = rd r 0 ∧ rd p 1 < rd r 1)
def rowsOk (h : Int) : Option (List Int) → List (List Int) → Bool
  | _, [] => true
  | p, r :: rs => rowOk h r && ((match p with | none => true | some q => lexLt q r) && rowsOk h (some r) rs)
def isGraph (n : Int) (rs : List (List Int)) : Bool := decide (0 ≤ n ∧ n ≤ 10) && rowsOk (wrap64 (n - 1)) none rs
theorem isGraph_spec_l0 (n : Int) (xs : List (List Int)) (hn : xs.length ≤ 1048576) : ∀ (zs : List (List Int)) (i : Nat) (p : Option (List Int)), xs.drop i = zs → (i = 0 ∧ p = none ∨ ∃ q, p = some q ∧ 0 < i ∧ xs[i - 1]? = some q ∧ q.length = 2) → Ev (fun k => spec_IsGraph.l0 k (i : Int) n xs) (rowsOk (wrap64 (n - 1)) p zs && decide (0 ≤ n ∧ n ≤ 10)) := by
  intro zs
  induction zs with
  | nil =>
    intro i p h _
    have := at_end h
    refine Ev.step (fun k => by rw [spec_IsGraph.l0]) ?_
    refine ev_neg (by omega) (ev_bind0 (l1In_eq _ _ _) (ev_eq (Ev.now _) ?_))
    simp [rowsOk]
  | cons z zs ih =>
    intro i p h hp
    obtain ⟨hlt, hz, h2, _⟩ := at_drop h
    have hr : rd_L1 xs (i : Int) = z := getD_at hz
    refine Ev.step (fun k => by rw [spec_IsGraph.l0]) ?_
    refine ev_pos (by omega) (ev_pos (by omega) ?_)
    rw [hr]
    have bad : rowOk (wrap64 (n - 1)) z = false → Ev (fun k => spec_IsGraph.j1 k (i : Int) z true n xs) (rowsOk (wrap64 (n - 1)) p (z :: zs) && decide (0 ≤ n ∧ n ≤ 10)) := by
      intro hb
      refine Ev.step (fun k => by rw [spec_IsGraph.j1]) (ev_pos rfl (ev_eq (Ev.now _) ?_))
      simp [rowsOk, hb]
    refine ev_ite (fun e1 => ev_pos (by omega) (ev_bind0 (l1In_eq _ _ _) (ev_ite (fun e2 => ev_pos (by omega) (ev_bind0 (l1In_eq _ _ _) ?_)) (fun e2 => bad ?_)))) (fun e1 => bad ?_)
    · have e2 := of_decide_eq_true e2
      by_cases e3 : 0 ≤ rd z 1 ∧ rd z 1 ≤ wrap64 (n - 1)
      · have hok : rowOk (wrap64 (n - 1)) z = true := decide_eq_true ⟨by omega, e2.1, e2.2, e3.1, e3.2⟩
        have hl2 : z.length = 2 := by omega
        have ih2 := ih (i + 1) (some z) h2 (.inr ⟨z, rfl, by omega, hz, hl2⟩)
        rw [decide_eq_true e3]
        refine Ev.step (fun k => by rw [spec_IsGraph.j1]) (ev_neg (by decide) ?_)
        rw [wrap_id (x := (i : Int) + 1) (by omega) (by omega)]
        rcases hp with ⟨hi0, rfl⟩ | ⟨q, rfl, hi0, hq, hq2⟩
        · refine ev_neg (by omega) (ev_eq ih2 ?_)
          simp [rowsOk, hok]
        · have hr2 : rd_L1 xs ((i : Int) - 1) = q := by
            rw [show (i : Int) - 1 = ((i - 1 : Nat) : Int) by omega]
            exact getD_at hq
          rw [wrap_id (x := (i : Int) - 1) (by omega) (by omega), hr2]
          refine ev_pos (by omega) (ev_pos (by omega) (ev_pos (by omega) (ev_pos (by omega) (ev_pos (by omega) ?_))))
          refine ev_ite (fun e4 => ev_eq (Ev.now _) ?_) (fun e4 => ev_ite (fun e5 => ev_pos (by omega) (ev_pos (by omega) (ev_ite (fun e6 => ev_eq (Ev.now _) ?_) (fun e6 => ev_eq ih2 ?_)))) (fun e5 => ev_eq ih2 ?_))
          · have : lexLt q z = false := decide_eq_false (by omega)
            simp [rowsOk, this]
          · have : lexLt q z = false := decide_eq_false (by omega)
            simp [rowsOk, this]
          · have : lexLt q z = true := decide_eq_true (by omega)
            simp [rowsOk, this, hok]
          · have : lexLt q z = true := decide_eq_true (by omega)
            simp [rowsOk, this, hok]
      · rw [decide_eq_false e3]
        exact bad (decide_eq_false (by rintro ⟨_, _, _, h4, h5⟩; exact e3 ⟨h4, h5⟩))
    · have e2 : ¬ _ := fun h => e2 (decide_eq_true h)
      exact decide_eq_false (by rintro ⟨_, h2, h3, _⟩; exact e2 ⟨h2, h3⟩)
    · exact decide_eq_false (by rintro ⟨h1, _⟩; omega)
theorem isGraph_spec (n : Int) (xs : List (List Int)) (hn : xs.length ≤ 1048576) : Ev (fun k => spec_IsGraph.f k n xs) (isGraph n xs) := by
  unfold spec_IsGraph.f
  refine ev_eq (isGraph_spec_l0 n xs hn xs 0 none rfl (.inl ⟨rfl, rfl⟩)) ?_
  unfold isGraph
  exact Bool.and_comm _ _
theorem isGraph_n {n : Int} {xs : List (List Int)} (h : isGraph n xs = true) : 0 ≤ n ∧ n ≤ 10 := by
  unfold isGraph at h
  exact of_decide_eq_true (Bool.and_eq_true_iff.1 h).1
theorem rowsOk_mem {h : Int} : ∀ (rs : List (List Int)) (p : Option (List Int)), rowsOk h p rs = true → ∀ r ∈ rs, rowOk h r = true := by
  intro rs
  induction rs with
  | nil => intro p _ r hr; exact absurd hr (by simp)
  | cons a rs ih =>
    intro p hp r hr
    unfold rowsOk at hp
    simp only [Bool.and_eq_true] at hp
    rcases List.mem_cons.1 hr with rfl | hr
    · exact hp.1
    · exact ih (some a) hp.2.2 r hr
theorem isGraph_row {n : Int} {xs : List (List Int)} (h : isGraph n xs = true) {r : List Int} (hr : r ∈ xs) : r.length = 2 ∧ 0 ≤ rd r 0 ∧ rd r 0 ≤ n - 1 ∧ 0 ≤ rd r 1 ∧ rd r 1 ≤ n - 1 := by
  have hn := isGraph_n h
  unfold isGraph at h
  have := of_decide_eq_true (rowsOk_mem xs none (Bool.and_eq_true_iff.1 h).2 r hr)
  rw [wrap_id (by omega) (by omega)] at this
  exact this
theorem compare2 (a b c d : Int) : Ev (fun k => slices_Compare_int_int.f k [a, b] [c, d]) (if a < c then -1 else if a > c then 1 else if b < d then -1 else if b > d then 1 else 0) := by
  have hc : ∀ x y : Int, cmp_Compare_int.f x y = some (if x < y then -1 else if x > y then 1 else 0) := by
    intro x y
    unfold cmp_Compare_int.f cmp_isNaN_int.f
    simp only [bne_self_eq_false, Option.bind_some, Bool.false_eq_true, if_false]
    split
    · rfl
    · split <;> rfl
  have hl : ∀ x y : Int, (([x, y] : List Int).length : Int) = 2 := fun _ _ => rfl
  unfold slices_Compare_int_int.f
  refine Ev.step (fun k => by rw [slices_Compare_int_int.l0]) ?_
  rw [hl, hl]
  refine ev_pos (by omega) (ev_pos (by omega) (ev_pos (by omega) (ev_neg (by omega) (ev_pos (by omega) (ev_bind0 (hc _ _) ?_)))))
  rw [show rd [a, b] 0 = a from rfl, show rd [c, d] 0 = c from rfl]
  by_cases h1 : a < c
  · rw [if_pos h1, if_pos h1]
    exact ev_neg (by omega) (Ev.now _)
  · rw [if_neg h1, if_neg h1]
    by_cases h2 : a > c
    · rw [if_pos h2, if_pos h2]
      exact ev_neg (by omega) (Ev.now _)
    · rw [if_neg h2, if_neg h2]
      refine ev_pos rfl ?_
      rw [wrap_id (x := 0 + 1) (by omega) (by omega)]
      refine Ev.step (fun k => by rw [slices_Compare_int_int.l0]) ?_
      rw [hl, hl]
      refine ev_pos (by omega) (ev_pos (by omega) (ev_pos (by omega) (ev_neg (by omega) (ev_pos (by omega) (ev_bind0 (hc _ _) ?_)))))
      rw [show rd [a, b] (0 + 1) = b from rfl, show rd [c, d] (0 + 1) = d from rfl]
      by_cases h3 : b < d
      · rw [if_pos h3]
        exact ev_neg (by omega) (Ev.now _)
      · rw [if_neg h3]
        by_cases h4 : b > d
        · rw [if_pos h4]
          exact ev_neg (by omega) (Ev.now _)
        · rw [if_neg h4]
          refine ev_pos rfl ?_
          rw [wrap_id (x := 0 + 1 + 1) (by omega) (by omega)]
          refine Ev.step (fun k => by rw [slices_Compare_int_int.l0]) ?_
          rw [hl, hl]
          exact ev_neg (by omega) (ev_neg (by omega) (Ev.now _))
theorem two_of {r : List Int} (h : r.length = 2) : r = [rd r 0, rd r 1] := by
  match r, h with
  | [a, b], _ => rfl
theorem compare_rows (q z : List Int) (hq : q.length = 2) (hz : z.length = 2) : ∃ c : Int, Ev (fun k => slices_Compare_int_int.f k q z) c ∧ (c ≥ 0 ↔ lexLt q z = false) := by
  refine ⟨_, by rw [two_of hq, two_of hz]; exact compare2 _ _ _ _, ?_⟩
  unfold lexLt
  rw [decide_eq_false_iff_not]
  generalize rd q 0 = a
  generalize rd q 1 = b
  generalize rd z 0 = c
  generalize rd z 1 = d
  split
  · omega
  · split
    · omega
    · split
      · omega
      · split <;> omega
theorem isClaim_eq (n : Int) (xs : List (List Int)) (a : Int) : impl_isClaim.f n xs a = some (decide (0 ≤ a ∧ a ≤ wrap64 (n - 1))) := by
  unfold impl_isClaim.f
  rw [inRange_eq]
  rfl
theorem isGraph_impl_l0 (n : Int) (xs : List (List Int)) (hn : xs.length ≤ 1048576) : ∀ (zs : List (List Int)) (i : Nat) (p : Option (List Int)), xs.drop i = zs → (i = 0 ∧ p = none ∨ ∃ q, p = some q ∧ 0 < i ∧ xs[i - 1]? = some q ∧ q.length = 2) → Ev (fun k => impl_IsGraph.l0 k xs xs.length (i : Int) n xs) (rowsOk (wrap64 (n - 1)) p zs) := by
  intro zs
  induction zs with
  | nil =>
    intro i p h _
    have := at_end h
    refine Ev.step (fun k => by rw [impl_IsGraph.l0]) ?_
    exact ev_neg (by omega) (Ev.now _)
  | cons z zs ih =>
    intro i p h hp
    obtain ⟨hlt, hz, h2, _⟩ := at_drop h
    have hr : rd_L1 xs (i : Int) = z := getD_at hz
    refine Ev.step (fun k => by rw [impl_IsGraph.l0]) ?_
    refine ev_pos (by omega) (ev_pos (by omega) (ev_pos (by omega) ?_))
    rw [hr]
    have bad : rowOk (wrap64 (n - 1)) z = false → false = rowsOk (wrap64 (n - 1)) p (z :: zs) := by
      intro hb
      simp [rowsOk, hb]
    refine ev_ite (fun e1 => ev_pos (by omega) (ev_bind0 (isClaim_eq _ _ _) (ev_ite (fun e2 => ev_pos (by omega) (ev_bind0 (isClaim_eq _ _ _) (ev_ite (fun e3 => ?_) (fun e3 => ev_eq (Ev.now _) (bad ?_))))) (fun e2 => ev_eq (Ev.now _) (bad ?_))))) (fun e1 => ev_eq (Ev.now _) (bad ?_))
    · have e2 := of_decide_eq_true e2
      have e3 := of_decide_eq_true e3
      have hok : rowOk (wrap64 (n - 1)) z = true := decide_eq_true ⟨by omega, e2.1, e2.2, e3.1, e3.2⟩
      have hl2 : z.length = 2 := by omega
      have ih2 := ih (i + 1) (some z) h2 (.inr ⟨z, rfl, by omega, hz, hl2⟩)
      rw [wrap_id (x := (i : Int) + 1) (by omega) (by omega)]
      rcases hp with ⟨hi0, rfl⟩ | ⟨q, rfl, hi0, hq, hq2⟩
      · refine ev_neg (by omega) (ev_eq ih2 ?_)
        simp [rowsOk, hok]
      · have hr2 : rd_L1 xs ((i : Int) - 1) = q := by
          rw [show (i : Int) - 1 = ((i - 1 : Nat) : Int) by omega]
          exact getD_at hq
        rw [wrap_id (x := (i : Int) - 1) (by omega) (by omega), hr2]
        obtain ⟨c, hc, hc2⟩ := compare_rows q z hq2 hl2
        refine ev_pos (by omega) (ev_pos (by omega) (ev_pos (by omega) (Ev.bind hc (ev_ite (fun e4 => ev_eq (Ev.now _) ?_) (fun e4 => ev_eq ih2 ?_)))))
        · have := hc2.1 e4
          simp [rowsOk, this]
        · have : lexLt q z = true := by
            cases hl : lexLt q z with
            | true => rfl
            | false => exact absurd (hc2.2 hl) e4
          simp [rowsOk, this, hok]
    · have e3 : ¬ _ := fun h => e3 (decide_eq_true h)
      exact decide_eq_false (by rintro ⟨_, _, _, h4, h5⟩; exact e3 ⟨h4, h5⟩)
    · have e2 : ¬ _ := fun h => e2 (decide_eq_true h)
      exact decide_eq_false (by rintro ⟨_, h2, h3, _⟩; exact e2 ⟨h2, h3⟩)
    · exact decide_eq_false (by rintro ⟨h1, _⟩; omega)
theorem isGraph_impl (n : Int) (xs : List (List Int)) (hn : xs.length ≤ 1048576) : Ev (fun k => impl_IsGraph.f k n xs) (isGraph n xs) := by
  unfold impl_IsGraph.f isGraph
  refine ev_bind0 (inRange_eq _ _ _) (ev_ite (fun e => ?_) (fun e => ev_eq (Ev.now _) ?_))
  · rw [e, Bool.true_and]
    exact isGraph_impl_l0 n xs hn xs 0 none rfl (.inl ⟨rfl, rfl⟩)
  · rw [show decide (0 ≤ n ∧ n ≤ 10) = false by simpa using e, Bool.false_and]
def loops (rs : List (List Int)) : Nat := rs.countP fun r => decide (rd r 0 = rd r 1)
theorem countLoops_l0 (n : Int) (xs : List (List Int)) (hn : xs.length ≤ 1048576) : ∀ (zs : List (List Int)) (i c : Nat), xs.drop i = zs → c ≤ i → Ev (fun k => spec_CountLoops.l0 k (c : Int) (i : Int) n xs) (if isGraph n xs then ((c + loops zs : Nat) : Int) else c) := by
  intro zs
  induction zs with
  | nil =>
    intro i c h _
    have := at_end h
    refine Ev.step (fun k => by rw [spec_CountLoops.l0]) ?_
    refine ev_neg (by omega) (Ev.step (fun k => by rw [spec_CountLoops.j1]) (ev_neg (by decide) (ev_eq (Ev.now _) ?_)))
    simp [loops]
  | cons z zs ih =>
    intro i c h hc
    obtain ⟨hlt, hz, h2, _⟩ := at_drop h
    have hr : rd_L1 xs (i : Int) = z := getD_at hz
    refine Ev.step (fun k => by rw [spec_CountLoops.l0]) ?_
    refine ev_pos (by omega) (Ev.bind (isGraph_spec n xs hn) (Ev.step (fun k => by rw [spec_CountLoops.j1]) (ev_ite (fun e => ?_) (fun e => ev_eq (Ev.now _) ?_))))
    · have hg := isGraph_row e (List.mem_of_getElem? hz)
      rw [hr, wrap_id (x := (i : Int) + 1) (by omega) (by omega), wrap_id (x := (c : Int) + 1) (by omega) (by omega)]
      refine ev_pos (by omega) (ev_pos (by omega) (ev_pos (by omega) (ev_pos (by omega) (ev_ite (fun e2 => ev_eq (ih (i + 1) (c + 1) h2 (by omega)) ?_) (fun e2 => ev_eq (ih (i + 1) c h2 (by omega)) ?_)))))
      · rw [if_pos e, if_pos e]
        unfold loops
        rw [List.countP_cons, if_pos (by simp [e2])]
        omega
      · rw [if_pos e, if_pos e]
        unfold loops
        rw [List.countP_cons, if_neg (by simp [e2])]
        rfl
    · rw [if_neg e]
theorem countLoops_spec (n : Int) (xs : List (List Int)) (hn : xs.length ≤ 1048576) : Ev (fun k => spec_CountLoops.f k n xs) (if isGraph n xs then (loops xs : Int) else 0) := by
  unfold spec_CountLoops.f
  refine ev_eq (countLoops_l0 n xs hn xs 0 0 rfl (by omega)) ?_
  simp
theorem countLoops_impl_l0 (n : Int) (xs : List (List Int)) (hg : isGraph n xs = true) (hn : xs.length ≤ 1048576) : ∀ (zs : List (List Int)) (i c : Nat), xs.drop i = zs → c ≤ i → Ev (fun k => impl_CountLoops.l0 k (c : Int) xs xs.length (i : Int)) ((c + loops zs : Nat) : Int) := by
  intro zs
  induction zs with
  | nil =>
    intro i c h _
    have := at_end h
    refine Ev.step (fun k => by rw [impl_CountLoops.l0]) ?_
    exact ev_neg (by omega) (ev_eq (Ev.now _) (by simp [loops]))
  | cons z zs ih =>
    intro i c h hc
    obtain ⟨hlt, hz, h2, _⟩ := at_drop h
    have hr : rd_L1 xs (i : Int) = z := getD_at hz
    refine Ev.step (fun k => by rw [impl_CountLoops.l0]) ?_
    have hg := isGraph_row hg (List.mem_of_getElem? hz)
    rw [hr, wrap_id (x := (i : Int) + 1) (by omega) (by omega), wrap_id (x := (c : Int) + 1) (by omega) (by omega)]
    refine ev_pos (by omega) (ev_pos (by omega) (ev_pos (by omega) (ev_pos (by omega) (ev_pos (by omega) (ev_ite (fun e2 => ev_eq (ih (i + 1) (c + 1) h2 (by omega)) ?_) (fun e2 => ev_eq (ih (i + 1) c h2 (by omega)) ?_))))))
    · unfold loops
      rw [List.countP_cons, if_pos (by simp [e2])]
      omega
    · unfold loops
      rw [List.countP_cons, if_neg (by simp [e2])]
      rfl
theorem countLoops_impl (n : Int) (xs : List (List Int)) (hn : xs.length ≤ 1048576) : Ev (fun k => impl_CountLoops.f k n xs) (if isGraph n xs then (loops xs : Int) else 0) := by
  unfold impl_CountLoops.f
  refine Ev.bind (isGraph_impl n xs hn) (ev_ite (fun e => ev_eq (countLoops_impl_l0 n xs e hn xs 0 0 rfl (by omega)) ?_) (fun e => ev_eq (Ev.now _) ?_))
  · rw [if_pos e]; simp
  · rw [if_neg e]

theorem FnExactCountLoops (a0_0 : Int) (g0_0 : (Lit.int .i64 a0_0).wf = true) (l0_1 : List (List (Int))) (g0_1 : l0_1.length ≤ 9223372036854775807 ∧ ∀ y ∈ l0_1, y.length ≤ 9223372036854775807 ∧ ∀ z ∈ y, (Lit.int .i64 z).wf = true) : ∃ k, laws_FnExactCountLoops.f k a0_0 l0_1 = some true := by
  refine Ev.rounds (g := fun k => laws_FnExactCountLoops.f k a0_0 l0_1) ?_
  unfold laws_FnExactCountLoops.f
  obtain ⟨r, hr, hok⟩ := szGraph_ev a0_0 l0_1 g0_1.1 (fun y hy => (g0_1.2 y hy).1)
  refine Ev.bind hr (ev_ite (fun _ => Ev.now _) (fun h0 => ?_))
  obtain ⟨hn, hi⟩ := hok h0
  refine Ev.bind (toGraph_ev _ _ hn hi) ?_
  dsimp only
  refine Ev.bind (countLoops_spec _ _ hn) (Ev.bind (toGraph_ev _ _ hn hi) ?_)
  dsimp only
  refine Ev.bind (countLoops_impl _ _ hn) (ev_pos rfl (Ev.bind (toGraph_ev _ _ hn hi) ?_))
  dsimp only
  exact Ev.bind (eqGraph_same _ _ hn hi) (ev_pos rfl (Ev.now _))

end Go.Proofs.Ytkmhkkhlbnhaaaa.Pure
