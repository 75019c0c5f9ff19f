/- The plain statement of the law FnGames, for all numbers and lists. -/
import Derived.Test.YtdlobolnajcfnaaPFnGamesx0
import Derived.Test.YtdlobolnajcfnaaPFnGamesx1
import Derived.Test.YtdlobolnajcfnaaPFnGamesx2
import Derived.Test.YtdlobolnajcfnaaPFnGamesx3
import Derived.Test.YtdlobolnajcfnaaPFnGamesx4
import Derived.Test.YtdlobolnajcfnaaPFnGamesx5
import Derived.Test.YtdlobolnajcfnaaPFnGamesx6
import Derived.Test.YtdlobolnajcfnaaPFnGamesx7
import Derived.Test.YtdlobolnajcfnaaPFnGamesx8
import Derived.Test.YtdlobolnajcfnaaPFnGamesx9
import Derived.Test.YtdlobolnajcfnaaPFnGamesx10
import Derived.Test.YtdlobolnajcfnaaPFnGamesx11
import Derived.Test.YtdlobolnajcfnaaPFnGamesx12
import Derived.Test.YtdlobolnajcfnaaPFnGamesx13
import Derived.Test.YtdlobolnajcfnaaPFnGamesx14
import Derived.Test.YtdlobolnajcfnaaPFnGamesx15
import Derived.Test.YtdlobolnajcfnaaPFnGamesx16
import Derived.Test.YtdlobolnajcfnaaPFnGamesx17
import Derived.Test.YtdlobolnajcfnaaPFnGamesx18
import Derived.Test.YtdlobolnajcfnaaBase
set_option linter.unusedVariables false
set_option linter.unusedSimpArgs false
namespace Go.Proofs.Ytdlobolnajcfnaa.Pure
open Go.RowKit Go.Proofs.Ytdlobolnajcfnaa.PFnGames Go.Proofs.YtdlobolnajcfnaaW.PrintWords Go.Proofs.YtdlobolnajcfnaaW.PrintLast Go.Proofs.YtdlobolnajcfnaaW.PrintMore Go.Proofs.Ytdlobolnajcfnaa.Base
theorem indexInt_l0 (xs : List Int) (x : Int) (hn : xs.length ≤ 9223372036854775807) : ∀ (zs : List Int) (i : Nat), xs.drop i = zs → ∃ r : Int, Ev (fun k => slices_Index_int_int.l0 k xs x xs.length (i : Int)) r ∧ (0 ≤ r ↔ x ∈ zs) := by
  intro zs
  induction zs with
  | nil =>
    intro i h
    have := at_end h
    exact ⟨-1, Ev.step (fun k => by rw [slices_Index_int_int.l0]) (ev_neg (by omega) (Ev.now _)), by simp⟩
  | cons z zs ih =>
    intro i h
    obtain ⟨hi, hz, h', _⟩ := at_drop h
    by_cases e : x = z
    · refine ⟨i, Ev.step (fun k => by rw [slices_Index_int_int.l0]) (ev_pos (by omega) (ev_pos (by omega) (ev_pos (by omega) ?_))), by simp [e]⟩
      rw [rd_get hz]
      exact ev_pos e (Ev.now _)
    · obtain ⟨r, hr, hm⟩ := ih (i + 1) h'
      refine ⟨r, Ev.step (fun k => by rw [slices_Index_int_int.l0]) (ev_pos (by omega) (ev_pos (by omega) (ev_pos (by omega) ?_))), by simp [e, hm]⟩
      rw [rd_get hz, wrap_id (by omega) (by omega)]
      exact ev_neg e hr
theorem containsInt_ev (xs : List Int) (x : Int) (hn : xs.length ≤ 9223372036854775807) : Ev (fun k => slices_Contains_int_int.f k xs x) (decide (x ∈ xs)) := by
  unfold slices_Contains_int_int.f slices_Index_int_int.f
  obtain ⟨r, hr, hm⟩ := indexInt_l0 xs x hn xs 0 rfl
  exact Ev.bind hr (ev_eq (Ev.now _) (decide_eq_decide.2 hm))
theorem l1In_eq (x a b : Int) : spec_l1In.f x a b = some (decide (a ≤ x ∧ x ≤ b)) := by
  unfold spec_l1In.f
  by_cases h : a ≤ x <;> simp [h]
theorem inRange_eq (x a b : Int) : impl_InRange.f x a b = some (decide (a ≤ x ∧ x ≤ b)) := by
  unfold impl_InRange.f
  by_cases h : a ≤ x <;> simp [h]

/-- Where a reader of draws stands: within its bytes. -/
def Cur (b : List Int) (i : Int) : Prop := 0 ≤ i ∧ i ≤ b.length
theorem and255 (x : Int) : 0 ≤ Go.bits .and .i64 x 255 ∧ Go.bits .and .i64 x 255 ≤ 255 := by
  have h : (BitVec.ofInt 64 x &&& BitVec.ofInt 64 255).toNat ≤ 255 := by
    rw [BitVec.toNat_and]
    have h2 : (BitVec.ofInt 64 255).toNat = 255 := by decide
    rw [h2]
    exact Nat.and_le_right
  have e : Go.bits .and .i64 x 255 = IntKind.i64.wrap ((BitVec.ofInt 64 x &&& BitVec.ofInt 64 255).toNat : Int) := rfl
  rw [e, IntKind.wrap_i64]
  omega
theorem l1Byte_ok (b : List Int) (i h : Int) (hc : Cur b i) (hb : b.length ≤ 1048576) : ∃ r i2 h2, spec_l1Byte.f b i h = some (r, i2, h2) ∧ (0 ≤ r ∧ r ≤ 255) ∧ Cur b i2 := by
  obtain ⟨hc0, hc1⟩ := hc
  unfold spec_l1Byte.f
  by_cases hi : i < (b.length : Int)
  · rw [if_pos hi, if_pos hc0, wrap_id (x := i + 1) (by omega) (by omega)]
    exact ⟨_, _, _, rfl, and255 _, by unfold Cur; omega⟩
  · rw [if_neg hi]
    exact ⟨_, _, _, rfl, and255 _, hc0, hc1⟩
theorem tmod_ok (x n : Int) (hx : 0 ≤ x) (hn : 0 < n) : 0 ≤ Int.tmod x n ∧ Int.tmod x n < n := by
  rw [Int.tmod_eq_emod_of_nonneg hx]
  exact ⟨Int.emod_nonneg _ (by omega), Int.emod_lt_of_pos _ hn⟩
theorem l1Below_ok (b : List Int) (i h n : Int) (hc : Cur b i) (hb : b.length ≤ 1048576) : ∃ r i2 h2, spec_l1Below.f b i h n = some (r, i2, h2) ∧ 0 ≤ r ∧ (0 < n → r < n) ∧ (n ≤ 0 → r = 0) ∧ Cur b i2 := by
  unfold spec_l1Below.f
  by_cases h0 : n ≤ 0
  · rw [if_pos h0]
    exact ⟨_, _, _, rfl, by omega, by omega, fun _ => rfl, hc⟩
  · rw [if_neg h0]
    by_cases h1 : n ≤ 256
    · obtain ⟨r, i2, h2, e, hr, hc2⟩ := l1Byte_ok b i h hc hb
      rw [if_pos h1, e]
      simp only [Option.bind_some]
      rw [if_neg (by omega)]
      exact ⟨_, _, _, rfl, (tmod_ok r n hr.1 (by omega)).1, fun _ => (tmod_ok r n hr.1 (by omega)).2, by omega, hc2⟩
    · obtain ⟨r, i2, h2, e, hr, hc2⟩ := l1Byte_ok b i h hc hb
      obtain ⟨r3, i3, h3, e3, hr3, hc3⟩ := l1Byte_ok b i2 h2 hc2 hb
      obtain ⟨r4, i4, h4, e4, hr4, hc4⟩ := l1Byte_ok b i3 h3 hc3 hb
      rw [if_neg h1, e]
      simp only [Option.bind_some]
      rw [e3]
      simp only [Option.bind_some]
      rw [e4]
      simp only [Option.bind_some]
      rw [if_neg (by omega), wrap_id (x := r * 65536) (by omega) (by omega), wrap_id (x := r3 * 256) (by omega) (by omega), wrap_id (x := r * 65536 + r3 * 256) (by omega) (by omega), wrap_id (x := r * 65536 + r3 * 256 + r4) (by omega) (by omega)]
      exact ⟨_, _, _, rfl, (tmod_ok _ n (by omega) (by omega)).1, fun _ => (tmod_ok _ n (by omega) (by omega)).2, by omega, hc4⟩
theorem l1New_l0 (b : List Int) (hb : b.length ≤ 1048576) : ∀ (zs : List Int) (i : Nat) (h : Int), b.drop i = zs → ∃ h2, Ev (fun k => spec_l1New.l0 k b h (i : Int)) (b, 0, h2) := by
  intro zs
  induction zs with
  | nil =>
    intro i h hd
    have := at_end hd
    refine ⟨h, Ev.step (fun k => by rw [spec_l1New.l0]) ?_⟩
    exact ev_neg (by omega) (Ev.now _)
  | cons z zs ih =>
    intro i h hd
    obtain ⟨hi, hz, hd2, _⟩ := at_drop hd
    by_cases h4 : (i : Int) < 4000
    · obtain ⟨h2, hev⟩ := ih (i + 1) (Go.bits .and .i64 (wrap64 ((wrap64 ((wrap64 (h * 137)) + (wrap64 (rd b (i : Int))))) + 11)) 1073741823) hd2
      refine ⟨h2, Ev.step (fun k => by rw [spec_l1New.l0]) ?_⟩
      refine ev_pos (by omega) (ev_pos h4 (ev_pos (by omega) ?_))
      rw [wrap_id (x := (i : Int) + 1) (by omega) (by omega)]
      exact hev
    · refine ⟨h, Ev.step (fun k => by rw [spec_l1New.l0]) ?_⟩
      exact ev_pos (by omega) (ev_neg h4 (Ev.now _))
theorem l1New_ok (b : List Int) (hb : b.length ≤ 1048576) : ∃ h2, Ev (fun k => spec_l1New.f k b) (b, 0, h2) ∧ Cur b 0 := by
  unfold spec_l1New.f
  obtain ⟨h2, hev⟩ := l1New_l0 b hb b 0 (wrap64 (193017 + (b.length : Int))) rfl
  exact ⟨h2, hev, by unfold Cur; omega⟩
theorem l1Once_ok (b : List Int) (i h n : Int) (hc : Cur b i) (hb : b.length ≤ 1048576) : ∃ (r : Bool) (i2 h2 : Int), spec_l1Once.f b i h n = some (r, i2, h2) ∧ Cur b i2 := by
  unfold spec_l1Once.f
  obtain ⟨r, i2, h2, e, _, _, _, hc2⟩ := l1Below_ok b i h n hc hb
  rw [e]
  exact ⟨_, _, _, rfl, hc2⟩
theorem big_eq (b : List Int) : laws_big.f b = some (decide ((b.length : Int) > 1048576)) := rfl

def rowOk (h : Int) (r : List Int) : Bool := decide (r.length = 2 ∧ 0 ≤ rd r 0 ∧ rd r 0 ≤ h ∧ 0 ≤ rd r 1 ∧ rd r 1 ≤ h)
def lexLt (p r : List Int) : Bool := decide (rd p 0 < rd r 0 ∨ rd p 0 = rd r 0 ∧ rd p 1 < rd r 1)
def rowsOk (h : Int) : Option (List Int) → List (List Int) → Bool
  | _, [] => true
  | p, r :: rs => rowOk h r && ((match p with | none => true | some q => lexLt q r) && rowsOk h (some r) rs)
def isGraph (n : Int) (rs : List (List Int)) : Bool := decide (0 ≤ n ∧ n ≤ 10) && rowsOk (wrap64 (n - 1)) none rs
theorem isGraph_spec_l0 (n : Int) (xs : List (List Int)) (hn : xs.length ≤ 4611686018427387904) : ∀ (zs : List (List Int)) (i : Nat) (p : Option (List Int)), xs.drop i = zs → (i = 0 ∧ p = none ∨ ∃ q, p = some q ∧ 0 < i ∧ xs[i - 1]? = some q ∧ q.length = 2) → Ev (fun k => spec_IsGraph.l0 k (i : Int) n xs) (rowsOk (wrap64 (n - 1)) p zs && decide (0 ≤ n ∧ n ≤ 10)) := by
  intro zs
  induction zs with
  | nil =>
    intro i p h _
    have := at_end h
    refine Ev.step (fun k => by rw [spec_IsGraph.l0]) ?_
    refine ev_neg (by omega) (ev_bind0 (l1In_eq _ _ _) (ev_eq (Ev.now _) ?_))
    simp [rowsOk]
  | cons z zs ih =>
    intro i p h hp
    obtain ⟨hlt, hz, h2, _⟩ := at_drop h
    have hr : rd_L1 xs (i : Int) = z := getD_at hz
    refine Ev.step (fun k => by rw [spec_IsGraph.l0]) ?_
    refine ev_pos (by omega) (ev_pos (by omega) ?_)
    rw [hr]
    have bad : rowOk (wrap64 (n - 1)) z = false → Ev (fun k => spec_IsGraph.j1 k (i : Int) z true n xs) (rowsOk (wrap64 (n - 1)) p (z :: zs) && decide (0 ≤ n ∧ n ≤ 10)) := by
      intro hb
      refine Ev.step (fun k => by rw [spec_IsGraph.j1]) (ev_pos rfl (ev_eq (Ev.now _) ?_))
      simp [rowsOk, hb]
    refine ev_ite (fun e1 => ev_pos (by omega) (ev_bind0 (l1In_eq _ _ _) (ev_ite (fun e2 => ev_pos (by omega) (ev_bind0 (l1In_eq _ _ _) ?_)) (fun e2 => bad ?_)))) (fun e1 => bad ?_)
    · have e2 := of_decide_eq_true e2
      by_cases e3 : 0 ≤ rd z 1 ∧ rd z 1 ≤ wrap64 (n - 1)
      · have hok : rowOk (wrap64 (n - 1)) z = true := decide_eq_true ⟨by omega, e2.1, e2.2, e3.1, e3.2⟩
        have hl2 : z.length = 2 := by omega
        have ih2 := ih (i + 1) (some z) h2 (.inr ⟨z, rfl, by omega, hz, hl2⟩)
        rw [decide_eq_true e3]
        refine Ev.step (fun k => by rw [spec_IsGraph.j1]) (ev_neg (by decide) ?_)
        rw [wrap_id (x := (i : Int) + 1) (by omega) (by omega)]
        rcases hp with ⟨hi0, rfl⟩ | ⟨q, rfl, hi0, hq, hq2⟩
        · refine ev_neg (by omega) (ev_eq ih2 ?_)
          simp [rowsOk, hok]
        · have hr2 : rd_L1 xs ((i : Int) - 1) = q := by
            rw [show (i : Int) - 1 = ((i - 1 : Nat) : Int) by omega]
            exact getD_at hq
          rw [wrap_id (x := (i : Int) - 1) (by omega) (by omega), hr2]
          refine ev_pos (by omega) (ev_pos (by omega) (ev_pos (by omega) (ev_pos (by omega) (ev_pos (by omega) ?_))))
          refine ev_ite (fun e4 => ev_eq (Ev.now _) ?_) (fun e4 => ev_ite (fun e5 => ev_pos (by omega) (ev_pos (by omega) (ev_ite (fun e6 => ev_eq (Ev.now _) ?_) (fun e6 => ev_eq ih2 ?_)))) (fun e5 => ev_eq ih2 ?_))
          · have : lexLt q z = false := decide_eq_false (by omega)
            simp [rowsOk, this]
          · have : lexLt q z = false := decide_eq_false (by omega)
            simp [rowsOk, this]
          · have : lexLt q z = true := decide_eq_true (by omega)
            simp [rowsOk, this, hok]
          · have : lexLt q z = true := decide_eq_true (by omega)
            simp [rowsOk, this, hok]
      · rw [decide_eq_false e3]
        exact bad (decide_eq_false (by rintro ⟨_, _, _, h4, h5⟩; exact e3 ⟨h4, h5⟩))
    · have e2 : ¬ _ := fun h => e2 (decide_eq_true h)
      exact decide_eq_false (by rintro ⟨_, h2, h3, _⟩; exact e2 ⟨h2, h3⟩)
    · exact decide_eq_false (by rintro ⟨h1, _⟩; omega)
theorem isGraph_specB (n : Int) (xs : List (List Int)) (hn : xs.length ≤ 4611686018427387904) : Ev (fun k => spec_IsGraph.f k n xs) (isGraph n xs) := by
  unfold spec_IsGraph.f
  refine ev_eq (isGraph_spec_l0 n xs hn xs 0 none rfl (.inl ⟨rfl, rfl⟩)) ?_
  unfold isGraph
  exact Bool.and_comm _ _
theorem isGraph_spec (n : Int) (xs : List (List Int)) (hn : xs.length ≤ 1048576) : Ev (fun k => spec_IsGraph.f k n xs) (isGraph n xs) := isGraph_specB n xs (by omega)
theorem isGraph_n {n : Int} {xs : List (List Int)} (h : isGraph n xs = true) : 0 ≤ n ∧ n ≤ 10 := by
  unfold isGraph at h
  exact of_decide_eq_true (Bool.and_eq_true_iff.1 h).1
theorem rowsOk_mem {h : Int} : ∀ (rs : List (List Int)) (p : Option (List Int)), rowsOk h p rs = true → ∀ r ∈ rs, rowOk h r = true := by
  intro rs
  induction rs with
  | nil => intro p _ r hr; exact absurd hr (by simp)
  | cons a rs ih =>
    intro p hp r hr
    unfold rowsOk at hp
    simp only [Bool.and_eq_true] at hp
    rcases List.mem_cons.1 hr with rfl | hr
    · exact hp.1
    · exact ih (some a) hp.2.2 r hr
theorem isGraph_row {n : Int} {xs : List (List Int)} (h : isGraph n xs = true) {r : List Int} (hr : r ∈ xs) : r.length = 2 ∧ 0 ≤ rd r 0 ∧ rd r 0 ≤ n - 1 ∧ 0 ≤ rd r 1 ∧ rd r 1 ≤ n - 1 := by
  have hn := isGraph_n h
  unfold isGraph at h
  have := of_decide_eq_true (rowsOk_mem xs none (Bool.and_eq_true_iff.1 h).2 r hr)
  rw [wrap_id (by omega) (by omega)] at this
  exact this
theorem compare2 (a b c d : Int) : Ev (fun k => slices_Compare_int_int.f k [a, b] [c, d]) (if a < c then -1 else if a > c then 1 else if b < d then -1 else if b > d then 1 else 0) := by
  have hc : ∀ x y : Int, cmp_Compare_int.f x y = some (if x < y then -1 else if x > y then 1 else 0) := by
    intro x y
    unfold cmp_Compare_int.f cmp_isNaN_int.f
    simp only [bne_self_eq_false, Option.bind_some, Bool.false_eq_true, if_false]
    split
    · rfl
    · split <;> rfl
  have hl : ∀ x y : Int, (([x, y] : List Int).length : Int) = 2 := fun _ _ => rfl
  unfold slices_Compare_int_int.f
  refine Ev.step (fun k => by rw [slices_Compare_int_int.l0]) ?_
  rw [hl, hl]
  refine ev_pos (by omega) (ev_pos (by omega) (ev_pos (by omega) (ev_neg (by omega) (ev_pos (by omega) (ev_bind0 (hc _ _) ?_)))))
  rw [show rd [a, b] 0 = a from rfl, show rd [c, d] 0 = c from rfl]
  by_cases h1 : a < c
  · rw [if_pos h1, if_pos h1]
    exact ev_neg (by omega) (Ev.now _)
  · rw [if_neg h1, if_neg h1]
    by_cases h2 : a > c
    · rw [if_pos h2, if_pos h2]
      exact ev_neg (by omega) (Ev.now _)
    · rw [if_neg h2, if_neg h2]
      refine ev_pos rfl ?_
      rw [wrap_id (x := 0 + 1) (by omega) (by omega)]
      refine Ev.step (fun k => by rw [slices_Compare_int_int.l0]) ?_
      rw [hl, hl]
      refine ev_pos (by omega) (ev_pos (by omega) (ev_pos (by omega) (ev_neg (by omega) (ev_pos (by omega) (ev_bind0 (hc _ _) ?_)))))
      rw [show rd [a, b] (0 + 1) = b from rfl, show rd [c, d] (0 + 1) = d from rfl]
      by_cases h3 : b < d
      · rw [if_pos h3]
        exact ev_neg (by omega) (Ev.now _)
      · rw [if_neg h3]
        by_cases h4 : b > d
        · rw [if_pos h4]
          exact ev_neg (by omega) (Ev.now _)
        · rw [if_neg h4]
          refine ev_pos rfl ?_
          rw [wrap_id (x := 0 + 1 + 1) (by omega) (by omega)]
          refine Ev.step (fun k => by rw [slices_Compare_int_int.l0]) ?_
          rw [hl, hl]
          exact ev_neg (by omega) (ev_neg (by omega) (Ev.now _))
theorem two_of {r : List Int} (h : r.length = 2) : r = [rd r 0, rd r 1] := by
  match r, h with
  | [a, b], _ => rfl
theorem compare_rows (q z : List Int) (hq : q.length = 2) (hz : z.length = 2) : ∃ c : Int, Ev (fun k => slices_Compare_int_int.f k q z) c ∧ (c ≥ 0 ↔ lexLt q z = false) := by
  refine ⟨_, by rw [two_of hq, two_of hz]; exact compare2 _ _ _ _, ?_⟩
  unfold lexLt
  rw [decide_eq_false_iff_not]
  generalize rd q 0 = a
  generalize rd q 1 = b
  generalize rd z 0 = c
  generalize rd z 1 = d
  split
  · omega
  · split
    · omega
    · split
      · omega
      · split <;> omega
theorem isClaim_eq (n : Int) (xs : List (List Int)) (a : Int) : impl_isClaim.f n xs a = some (decide (0 ≤ a ∧ a ≤ wrap64 (n - 1))) := by
  unfold impl_isClaim.f
  rw [inRange_eq]
  rfl
theorem isGraph_impl_l0 (n : Int) (xs : List (List Int)) (hn : xs.length ≤ 4611686018427387904) : ∀ (zs : List (List Int)) (i : Nat) (p : Option (List Int)), xs.drop i = zs → (i = 0 ∧ p = none ∨ ∃ q, p = some q ∧ 0 < i ∧ xs[i - 1]? = some q ∧ q.length = 2) → Ev (fun k => impl_IsGraph.l0 k xs xs.length (i : Int) n xs) (rowsOk (wrap64 (n - 1)) p zs) := by
  intro zs
  induction zs with
  | nil =>
    intro i p h _
    have := at_end h
    refine Ev.step (fun k => by rw [impl_IsGraph.l0]) ?_
    exact ev_neg (by omega) (Ev.now _)
  | cons z zs ih =>
    intro i p h hp
    obtain ⟨hlt, hz, h2, _⟩ := at_drop h
    have hr : rd_L1 xs (i : Int) = z := getD_at hz
    refine Ev.step (fun k => by rw [impl_IsGraph.l0]) ?_
    refine ev_pos (by omega) (ev_pos (by omega) (ev_pos (by omega) ?_))
    rw [hr]
    have bad : rowOk (wrap64 (n - 1)) z = false → false = rowsOk (wrap64 (n - 1)) p (z :: zs) := by
      intro hb
      simp [rowsOk, hb]
    refine ev_ite (fun e1 => ev_pos (by omega) (ev_bind0 (isClaim_eq _ _ _) (ev_ite (fun e2 => ev_pos (by omega) (ev_bind0 (isClaim_eq _ _ _) (ev_ite (fun e3 => ?_) (fun e3 => ev_eq (Ev.now _) (bad ?_))))) (fun e2 => ev_eq (Ev.now _) (bad ?_))))) (fun e1 => ev_eq (Ev.now _) (bad ?_))
    · have e2 := of_decide_eq_true e2
      have e3 := of_decide_eq_true e3
      have hok : rowOk (wrap64 (n - 1)) z = true := decide_eq_true ⟨by omega, e2.1, e2.2, e3.1, e3.2⟩
      have hl2 : z.length = 2 := by omega
      have ih2 := ih (i + 1) (some z) h2 (.inr ⟨z, rfl, by omega, hz, hl2⟩)
      rw [wrap_id (x := (i : Int) + 1) (by omega) (by omega)]
      rcases hp with ⟨hi0, rfl⟩ | ⟨q, rfl, hi0, hq, hq2⟩
      · refine ev_neg (by omega) (ev_eq ih2 ?_)
        simp [rowsOk, hok]
      · have hr2 : rd_L1 xs ((i : Int) - 1) = q := by
          rw [show (i : Int) - 1 = ((i - 1 : Nat) : Int) by omega]
          exact getD_at hq
        rw [wrap_id (x := (i : Int) - 1) (by omega) (by omega), hr2]
        obtain ⟨c, hc, hc2⟩ := compare_rows q z hq2 hl2
        refine ev_pos (by omega) (ev_pos (by omega) (ev_pos (by omega) (Ev.bind hc (ev_ite (fun e4 => ev_eq (Ev.now _) ?_) (fun e4 => ev_eq ih2 ?_)))))
        · have := hc2.1 e4
          simp [rowsOk, this]
        · have : lexLt q z = true := by
            cases hl : lexLt q z with
            | true => rfl
            | false => exact absurd (hc2.2 hl) e4
          simp [rowsOk, this, hok]
    · have e3 : ¬ _ := fun h => e3 (decide_eq_true h)
      exact decide_eq_false (by rintro ⟨_, _, _, h4, h5⟩; exact e3 ⟨h4, h5⟩)
    · have e2 : ¬ _ := fun h => e2 (decide_eq_true h)
      exact decide_eq_false (by rintro ⟨_, h2, h3, _⟩; exact e2 ⟨h2, h3⟩)
    · exact decide_eq_false (by rintro ⟨h1, _⟩; omega)
theorem isGraph_implB (n : Int) (xs : List (List Int)) (hn : xs.length ≤ 4611686018427387904) : Ev (fun k => impl_IsGraph.f k n xs) (isGraph n xs) := by
  unfold impl_IsGraph.f isGraph
  refine ev_bind0 (inRange_eq _ _ _) (ev_ite (fun e => ?_) (fun e => ev_eq (Ev.now _) ?_))
  · rw [e, Bool.true_and]
    exact isGraph_impl_l0 n xs hn xs 0 none rfl (.inl ⟨rfl, rfl⟩)
  · rw [show decide (0 ≤ n ∧ n ≤ 10) = false by simpa using e, Bool.false_and]
theorem isGraph_impl (n : Int) (xs : List (List Int)) (hn : xs.length ≤ 1048576) : Ev (fun k => impl_IsGraph.f k n xs) (isGraph n xs) := isGraph_implB n xs (by omega)
def victims (n : Int) (xs : List (List Int)) (a : Int) : List Int := if isGraph n xs then (xs.filter fun r => decide (rd r 0 = a)).map fun r => rd r 1 else []
def attackers (n : Int) (xs : List (List Int)) (a : Int) : List Int := if isGraph n xs then (xs.filter fun r => decide (rd r 1 = a)).map fun r => rd r 0 else []
def does (n : Int) (xs : List (List Int)) (a b : Int) : Bool := isGraph n xs && xs.any fun r => decide (rd r 0 = a ∧ rd r 1 = b)
theorem victims_length (n : Int) (xs : List (List Int)) (a : Int) : (victims n xs a).length ≤ xs.length := by
  unfold victims
  split
  · rw [List.length_map]; exact List.length_filter_le _ _
  · simp
theorem attackers_length (n : Int) (xs : List (List Int)) (a : Int) : (attackers n xs a).length ≤ xs.length := by
  unfold attackers
  split
  · rw [List.length_map]; exact List.length_filter_le _ _
  · simp
theorem victims_mem (n : Int) (xs : List (List Int)) (a b : Int) : decide (b ∈ victims n xs a) = does n xs a b := by
  rw [Bool.eq_iff_iff, decide_eq_true_eq]
  unfold victims does
  cases isGraph n xs with
  | false => simp
  | true =>
    rw [if_pos rfl, Bool.true_and, List.any_eq_true, List.mem_map]
    constructor
    · rintro ⟨r, hr, rfl⟩
      rw [List.mem_filter] at hr
      exact ⟨r, hr.1, decide_eq_true ⟨of_decide_eq_true hr.2, rfl⟩⟩
    · rintro ⟨r, hr, h⟩
      have h := of_decide_eq_true h
      exact ⟨r, List.mem_filter.2 ⟨hr, decide_eq_true h.1⟩, h.2⟩
theorem does_range {n : Int} {xs : List (List Int)} {a b : Int} (h : does n xs a b = true) : 0 ≤ a ∧ a ≤ n - 1 ∧ 0 ≤ b ∧ b ≤ n - 1 := by
  unfold does at h
  rw [Bool.and_eq_true, List.any_eq_true] at h
  obtain ⟨hg, r, hr, h2⟩ := h
  have h2 := of_decide_eq_true h2
  have := isGraph_row hg hr
  rw [h2.1, h2.2] at this
  exact ⟨this.2.1, this.2.2.1, this.2.2.2.1, this.2.2.2.2⟩
theorem victims_l0 (n : Int) (xs : List (List Int)) (a : Int) (hg : isGraph n xs = true) (hn : xs.length ≤ 1048576) : ∀ (zs : List (List Int)) (i : Nat) (acc : List Int), xs.drop i = zs → acc.length ≤ i → Ev (fun k => impl_VictimsOf.l0 k a acc xs xs.length (i : Int)) (acc ++ (zs.filter fun r => decide (rd r 0 = a)).map fun r => rd r 1) := by
  intro zs
  induction zs with
  | nil =>
    intro i acc h _
    have := at_end h
    refine Ev.step (fun k => by rw [impl_VictimsOf.l0]) ?_
    exact ev_neg (by omega) (ev_eq (Ev.now _) (by simp))
  | cons z zs ih =>
    intro i acc h hl
    obtain ⟨hlt, hz, h2, _⟩ := at_drop h
    have hr : rd_L1 xs (i : Int) = z := getD_at hz
    have hg := isGraph_row hg (List.mem_of_getElem? hz)
    refine Ev.step (fun k => by rw [impl_VictimsOf.l0]) ?_
    rw [hr, wrap_id (x := (i : Int) + 1) (by omega) (by omega)]
    refine ev_pos (by omega) (ev_pos (by omega) (ev_pos (by omega) (ev_pos (by omega) (ev_ite (fun e2 => ev_pos (by omega) (ev_pos (by omega) (ev_eq (ih (i + 1) (acc ++ [rd z 1]) h2 (by first | (simp; done) | (simp; omega))) ?_))) (fun e2 => ev_eq (ih (i + 1) acc h2 (by omega)) ?_)))))
    · rw [List.filter_cons_of_pos (by simp [e2])]; simp
    · rw [List.filter_cons_of_neg (by simp [e2])]
theorem victims_impl (n : Int) (xs : List (List Int)) (a : Int) (hn : xs.length ≤ 1048576) : Ev (fun k => impl_VictimsOf.f k n xs a) (victims n xs a) := by
  unfold impl_VictimsOf.f victims
  refine ev_bind0 rfl (Ev.bind (isGraph_impl n xs hn) (ev_ite (fun e => ?_) (fun e => ev_eq (Ev.now _) ?_)))
  · rw [if_pos e]
    exact victims_l0 n xs a e hn xs 0 [] rfl (by simp)
  · rw [if_neg e]
theorem doesAttack_impl (n : Int) (xs : List (List Int)) (a b : Int) (hn : xs.length ≤ 1048576) : Ev (fun k => impl_DoesAttack.f k n xs a b) (does n xs a b) := by
  unfold impl_DoesAttack.f
  have := victims_length n xs a
  exact Ev.bind (victims_impl n xs a hn) (Ev.bind (containsInt_ev _ b (by omega)) (ev_eq (Ev.now _) (victims_mem n xs a b)))
theorem attackers_l0 (n : Int) (xs : List (List Int)) (a : Int) (hg : isGraph n xs = true) (hn : xs.length ≤ 1048576) : ∀ (zs : List (List Int)) (i : Nat) (acc : List Int), xs.drop i = zs → acc.length ≤ i → Ev (fun k => impl_AttackersOf.l0 k a acc xs xs.length (i : Int)) (acc ++ (zs.filter fun r => decide (rd r 1 = a)).map fun r => rd r 0) := by
  intro zs
  induction zs with
  | nil =>
    intro i acc h _
    have := at_end h
    refine Ev.step (fun k => by rw [impl_AttackersOf.l0]) ?_
    exact ev_neg (by omega) (ev_eq (Ev.now _) (by simp))
  | cons z zs ih =>
    intro i acc h hl
    obtain ⟨hlt, hz, h2, _⟩ := at_drop h
    have hr : rd_L1 xs (i : Int) = z := getD_at hz
    have hg := isGraph_row hg (List.mem_of_getElem? hz)
    refine Ev.step (fun k => by rw [impl_AttackersOf.l0]) ?_
    rw [hr, wrap_id (x := (i : Int) + 1) (by omega) (by omega)]
    refine ev_pos (by omega) (ev_pos (by omega) (ev_pos (by omega) (ev_pos (by omega) (ev_ite (fun e2 => ev_pos (by omega) (ev_pos (by omega) (ev_eq (ih (i + 1) (acc ++ [rd z 0]) h2 (by first | (simp; done) | (simp; omega))) ?_))) (fun e2 => ev_eq (ih (i + 1) acc h2 (by omega)) ?_)))))
    · rw [List.filter_cons_of_pos (by simp [e2])]; simp
    · rw [List.filter_cons_of_neg (by simp [e2])]
theorem attackers_impl (n : Int) (xs : List (List Int)) (a : Int) (hn : xs.length ≤ 1048576) : Ev (fun k => impl_AttackersOf.f k n xs a) (attackers n xs a) := by
  unfold impl_AttackersOf.f attackers
  refine ev_bind0 rfl (Ev.bind (isGraph_impl n xs hn) (ev_ite (fun e => ?_) (fun e => ev_eq (Ev.now _) ?_)))
  · rw [if_pos e]
    exact attackers_l0 n xs a e hn xs 0 [] rfl (by simp)
  · rw [if_neg e]
theorem attackersS_l0 (n : Int) (xs : List (List Int)) (a : Int) (hn : xs.length ≤ 1048576) : ∀ (zs : List (List Int)) (i : Nat) (acc : List Int), xs.drop i = zs → acc.length ≤ i → Ev (fun k => spec_AttackersOf.l0 k a acc (i : Int) n xs) (acc ++ if isGraph n xs then (zs.filter fun r => decide (rd r 1 = a)).map fun r => rd r 0 else []) := by
  intro zs
  induction zs with
  | nil =>
    intro i acc h _
    have := at_end h
    refine Ev.step (fun k => by rw [spec_AttackersOf.l0]) ?_
    exact ev_neg (by omega) (Ev.step (fun k => by rw [spec_AttackersOf.j1]) (ev_neg (by decide) (ev_eq (Ev.now _) (by simp))))
  | cons z zs ih =>
    intro i acc h hl
    obtain ⟨hlt, hz, h2, _⟩ := at_drop h
    have hr : rd_L1 xs (i : Int) = z := getD_at hz
    refine Ev.step (fun k => by rw [spec_AttackersOf.l0]) ?_
    refine ev_pos (by omega) (Ev.bind (isGraph_spec n xs hn) (Ev.step (fun k => by rw [spec_AttackersOf.j1]) (ev_ite (fun e => ?_) (fun e => ev_eq (Ev.now _) ?_))))
    · have hg := isGraph_row e (List.mem_of_getElem? hz)
      rw [hr, wrap_id (x := (i : Int) + 1) (by omega) (by omega)]
      refine ev_pos (by omega) (ev_pos (by omega) (ev_pos (by omega) (ev_ite (fun e2 => ev_pos (by omega) (ev_pos (by omega) (ev_eq (ih (i + 1) (acc ++ [rd z 0]) h2 (by first | (simp; done) | (simp; omega))) ?_))) (fun e2 => ev_eq (ih (i + 1) acc h2 (by omega)) ?_))))
      · rw [if_pos e, if_pos e, List.filter_cons_of_pos (by simp [e2])]; simp
      · rw [if_pos e, if_pos e, List.filter_cons_of_neg (by simp [e2])]
    · rw [if_neg e, List.append_nil]
theorem attackers_spec (n : Int) (xs : List (List Int)) (a : Int) (hn : xs.length ≤ 1048576) : Ev (fun k => spec_AttackersOf.f k n xs a) (attackers n xs a) := by
  unfold spec_AttackersOf.f attackers
  exact attackersS_l0 n xs a hn xs 0 [] rfl (by simp)
def answers (n : Int) (xs : List (List Int)) (own : List Int) (a : Int) : List Int := (attackers n xs a).filter fun x => !decide (x ∈ own)
theorem answersI_l0 (own ys : List Int) (ho : own.length ≤ 9223372036854775807) (hn : ys.length ≤ 1048576) : ∀ (zs : List Int) (i : Nat) (acc : List Int), ys.drop i = zs → acc.length ≤ i → Ev (fun k => impl_AnswersTo.l0 k own acc ys ys.length (i : Int)) (acc ++ zs.filter fun x => !decide (x ∈ own)) := by
  intro zs
  induction zs with
  | nil =>
    intro i acc h _
    have := at_end h
    refine Ev.step (fun k => by rw [impl_AnswersTo.l0]) ?_
    exact ev_neg (by omega) (ev_eq (Ev.now _) (by simp))
  | cons z zs ih =>
    intro i acc h hl
    obtain ⟨hlt, hz, h2, _⟩ := at_drop h
    refine Ev.step (fun k => by rw [impl_AnswersTo.l0]) ?_
    rw [rd_get hz, wrap_id (x := (i : Int) + 1) (by omega) (by omega)]
    refine ev_pos (by omega) (ev_pos (by omega) (ev_pos (by omega) (Ev.bind (containsInt_ev own z ho) (ev_ite (fun e2 => ev_eq (ih (i + 1) acc h2 (by omega)) ?_) (fun e2 => ev_pos (by omega) (ev_eq (ih (i + 1) (acc ++ [z]) h2 (by first | (simp; done) | (simp; omega))) ?_))))))
    · rw [List.filter_cons_of_neg (by simpa using e2)]
    · rw [List.filter_cons_of_pos (by simpa using e2)]; simp
theorem answers_impl (n : Int) (xs : List (List Int)) (own : List Int) (a : Int) (hn : xs.length ≤ 1048576) (ho : own.length ≤ 9223372036854775807) : Ev (fun k => impl_AnswersTo.f k n xs own a) (answers n xs own a) := by
  unfold impl_AnswersTo.f
  have := attackers_length n xs a
  exact Ev.bind (attackers_impl n xs a hn) (answersI_l0 own _ ho (by omega) _ 0 [] rfl (by simp))
def evens : List Int → List Int
  | [] => []
  | [a] => [a]
  | a :: _ :: r => a :: evens r
theorem evens_get : ∀ (cs : List Int) (k : Nat), (evens cs)[k]? = cs[2 * k]?
  | [], k => by simp [evens]
  | [a], k => by
    cases k with
    | zero => rfl
    | succ k => simp [evens]
  | a :: b :: r, k => by
    cases k with
    | zero => rfl
    | succ k =>
      rw [evens, List.getElem?_cons_succ, evens_get r k, show 2 * (k + 1) = 2 * k + 1 + 1 by omega, List.getElem?_cons_succ, List.getElem?_cons_succ]
theorem evens_length : ∀ (cs : List Int), (evens cs).length = (cs.length + 1) / 2
  | [] => rfl
  | [a] => by simp [evens]
  | a :: b :: r => by
    rw [evens, List.length_cons, evens_length r, List.length_cons, List.length_cons]
    omega
theorem evens_l0 (xs : List Int) (hn : xs.length ≤ 1048576) : ∀ (zs : List Int) (i : Nat) (acc : List Int), xs.drop i = zs → i ≤ xs.length + 1 → acc.length ≤ i → Ev (fun k => impl_evens.l0 k xs acc (i : Int)) (acc ++ evens zs)
  | [], i, acc, h, _, _ => by
    have := at_end h
    refine Ev.step (fun k => by rw [impl_evens.l0]) ?_
    exact ev_neg (by omega) (ev_eq (Ev.now _) (by simp [evens]))
  | [a], i, acc, h, hi, hl => by
    obtain ⟨hlt, hz, h2, _⟩ := at_drop h
    have he := at_end h2
    refine Ev.step (fun k => by rw [impl_evens.l0]) ?_
    rw [rd_get hz, wrap_id (x := (i : Int) + 2) (by omega) (by omega)]
    refine ev_pos (by omega) (ev_pos (by omega) (ev_pos (by omega) ?_))
    refine ev_eq (evens_l0 xs hn [] (i + 2) (acc ++ [a]) (List.drop_of_length_le (by omega)) (by omega) (by first | (simp; done) | (simp; omega))) ?_
    simp [evens]
  | a :: b :: r, i, acc, h, hi, hl => by
    obtain ⟨hlt, hz, h2, _⟩ := at_drop h
    obtain ⟨hlt2, _, h3, _⟩ := at_drop h2
    refine Ev.step (fun k => by rw [impl_evens.l0]) ?_
    rw [rd_get hz, wrap_id (x := (i : Int) + 2) (by omega) (by omega)]
    refine ev_pos (by omega) (ev_pos (by omega) (ev_pos (by omega) ?_))
    refine ev_eq (evens_l0 xs hn r (i + 2) (acc ++ [a]) h3 (by omega) (by first | (simp; done) | (simp; omega))) ?_
    simp [evens]
theorem evens_ev (xs : List Int) (hn : xs.length ≤ 1048576) : Ev (fun k => impl_evens.f k xs) (evens xs) := by
  unfold impl_evens.f
  exact evens_l0 xs hn xs 0 [] rfl (by omega) (by simp)
def LineAt (n : Int) (xs : List (List Int)) (cs : List Int) (i : Nat) : Prop := (0 ≤ rd cs i ∧ rd cs i ≤ wrap64 (n - 1)) ∧ (0 < i → does n xs (rd cs i) (rd cs (i - 1 : Nat)) = true) ∧ (i % 2 = 0 → ∀ j : Nat, j < i → j % 2 = 0 → rd cs j ≠ rd cs i)
def LineP (n : Int) (xs : List (List Int)) (cs : List Int) : Prop := isGraph n xs = true ∧ 0 < cs.length ∧ ∀ i : Nat, i < cs.length → LineAt n xs cs i
theorem isLineI_l1 (es : List Int) (hn : es.length ≤ 1048576) : ∀ (d i : Nat), i + d = es.length → ∃ b, Ev (fun k => impl_IsLine.l1 k es es es.length (i : Int)) b ∧ (b = true ↔ ∀ k : Nat, i ≤ k → k < es.length → rd es k ∉ es.take k) := by
  intro d
  induction d with
  | zero =>
    intro i h
    exact ⟨true, Ev.step (fun k => by rw [impl_IsLine.l1]) (ev_neg (by omega) (Ev.now _)), ⟨fun _ k a b => by omega, fun _ => rfl⟩⟩
  | succ d ih =>
    intro i h
    obtain ⟨b, hb, hb2⟩ := ih (i + 1) (by omega)
    have hlt : (es.take i).length ≤ 9223372036854775807 := by rw [List.length_take]; omega
    have hw : wrap64 ((i : Int) + 1) = ((i + 1 : Nat) : Int) := wrap_id (by omega) (by omega)
    by_cases hm : rd es i ∈ es.take i
    · refine ⟨false, Ev.step (fun k => by rw [impl_IsLine.l1]) (ev_pos (by omega) (ev_pos (by omega) (ev_pos (by omega) (ev_pos (by omega) ?_)))), ⟨fun h => absurd h (by decide), fun h => absurd hm (h i (Nat.le_refl _) (by omega))⟩⟩
      rw [Int.toNat_natCast]
      exact Ev.bind (containsInt_ev _ _ hlt) (ev_pos (decide_eq_true hm) (Ev.now _))
    · refine ⟨b, Ev.step (fun k => by rw [impl_IsLine.l1]) (ev_pos (by omega) (ev_pos (by omega) (ev_pos (by omega) (ev_pos (by omega) ?_)))), hb2.trans ⟨fun h k a c => ?_, fun h k a c => h k (by omega) c⟩⟩
      · rw [Int.toNat_natCast, hw]
        exact Ev.bind (containsInt_ev _ _ hlt) (ev_neg (fun h => hm (of_decide_eq_true h)) hb)
      · by_cases hk : k = i
        · subst hk; exact hm
        · exact h k (by omega) c
theorem isLineI_l0 (n : Int) (xs : List (List Int)) (cs : List Int) (hn : xs.length ≤ 1048576) (hc : cs.length ≤ 1048576) : ∀ (d i : Nat), i + d = cs.length → 1 ≤ i → ∃ b, Ev (fun k => impl_IsLine.l0 k cs (i : Int) n xs) b ∧ (b = true ↔ (∀ i' : Nat, i ≤ i' → i' < cs.length → does n xs (rd cs i') (rd cs (i' - 1 : Nat)) = true) ∧ ∀ k : Nat, k < (evens cs).length → rd (evens cs) k ∉ (evens cs).take k) := by
  intro d
  induction d with
  | zero =>
    intro i h _
    obtain ⟨b, hb, hb2⟩ := isLineI_l1 (evens cs) (by rw [evens_length]; omega) (evens cs).length 0 (by omega)
    refine ⟨b, Ev.step (fun k => by rw [impl_IsLine.l0]) (ev_neg (by omega) (Ev.bind (evens_ev cs hc) hb)), hb2.trans ⟨fun h => ⟨fun i' a b => by omega, fun k hk => h k (by omega) hk⟩, fun h k _ hk => h.2 k hk⟩⟩
  | succ d ih =>
    intro i h h1
    obtain ⟨b, hb, hb2⟩ := ih (i + 1) (by omega) (by omega)
    have hw : wrap64 ((i : Int) - 1) = ((i - 1 : Nat) : Int) := by rw [wrap_id (by omega) (by omega)]; omega
    have hw2 : wrap64 ((i : Int) + 1) = ((i + 1 : Nat) : Int) := wrap_id (by omega) (by omega)
    cases hd : does n xs (rd cs i) (rd cs (i - 1 : Nat)) with
    | true =>
      refine ⟨b, Ev.step (fun k => by rw [impl_IsLine.l0]) ?_, hb2.trans ⟨fun h => ⟨fun i' a c => ?_, h.2⟩, fun h => ⟨fun i' a c => h.1 i' (by omega) c, h.2⟩⟩⟩
      · rw [hw, hw2]
        exact ev_pos (by omega) (ev_pos (by omega) (ev_pos (by omega) (ev_pos (by omega) (Ev.bind (doesAttack_impl n xs _ _ hn) (ev_pos hd hb)))))
      · by_cases hk : i' = i
        · subst hk; exact hd
        · exact h.1 i' (by omega) c
    | false =>
      refine ⟨false, Ev.step (fun k => by rw [impl_IsLine.l0]) ?_, ⟨fun h => absurd h (by decide), fun h => absurd (h.1 i (Nat.le_refl _) (by omega)) (by rw [hd]; decide)⟩⟩
      rw [hw, hw2]
      exact ev_pos (by omega) (ev_pos (by omega) (ev_pos (by omega) (ev_pos (by omega) (Ev.bind (doesAttack_impl n xs _ _ hn) (ev_neg (by rw [hd]; decide) (Ev.now _))))))
theorem rd_evens (cs : List Int) (k : Nat) : rd (evens cs) k = rd cs (2 * k : Nat) := by
  unfold rd
  rw [Int.toNat_natCast, Int.toNat_natCast, List.getD_eq_getElem?_getD, List.getD_eq_getElem?_getD, evens_get]
theorem mem_take_rd (es : List Int) (x : Int) (k : Nat) (hk : k ≤ es.length) : x ∈ es.take k ↔ ∃ l : Nat, l < k ∧ rd es l = x := by
  rw [List.mem_iff_getElem?]
  constructor
  · rintro ⟨l, hl⟩
    have hlk : l < k := by
      have := (List.getElem?_eq_some_iff.1 hl).1
      rw [List.length_take] at this
      omega
    rw [List.getElem?_take_of_lt hlk] at hl
    exact ⟨l, hlk, rd_get hl⟩
  · rintro ⟨l, hl, rfl⟩
    refine ⟨l, ?_⟩
    rw [List.getElem?_take_of_lt hl]
    unfold rd
    rw [Int.toNat_natCast, List.getD_eq_getElem?_getD, List.getElem?_eq_getElem (by omega)]
    rfl
theorem isLine_impl (n : Int) (xs : List (List Int)) (cs : List Int) (hn : xs.length ≤ 1048576) (hc : cs.length ≤ 1048576) : ∃ b, Ev (fun k => impl_IsLine.f k n xs cs) b ∧ (b = true ↔ LineP n xs cs) := by
  unfold impl_IsLine.f
  have hj : Ev (fun k => impl_IsLine.j0 k cs true n xs) false := Ev.step (fun k => by rw [impl_IsLine.j0]) (ev_pos rfl (Ev.now _))
  cases hg : isGraph n xs with
  | false => exact ⟨false, Ev.bind (isGraph_impl n xs hn) (ev_neg (by rw [hg]; decide) hj), ⟨fun h => absurd h (by decide), fun h => absurd h.1 (by rw [hg]; decide)⟩⟩
  | true =>
    by_cases h0 : cs.length = 0
    · exact ⟨false, Ev.bind (isGraph_impl n xs hn) (ev_pos hg (ev_pos (by omega) hj)), ⟨fun h => absurd h (by decide), fun h => absurd h.2.1 (by omega)⟩⟩
    · by_cases hr : 0 ≤ rd cs 0 ∧ rd cs 0 ≤ wrap64 (n - 1)
      · obtain ⟨b, hb, hb2⟩ := isLineI_l0 n xs cs hn hc (cs.length - 1) 1 (by omega) (by omega)
        refine ⟨b, Ev.bind (isGraph_impl n xs hn) (ev_pos hg (ev_neg (by omega) (ev_pos (by omega) (ev_bind0 (isClaim_eq _ _ _) ?_)))), hb2.trans ?_⟩
        · rw [decide_eq_true hr]
          refine Ev.step (fun k => by rw [impl_IsLine.j0]) ?_
          exact ev_neg (by decide) hb
        · have hn10 := isGraph_n hg
          have hw : wrap64 (n - 1) = n - 1 := wrap_id (by omega) (by omega)
          constructor
          · rintro ⟨h1, h2⟩
            refine ⟨hg, by omega, fun i hi => ⟨?_, fun hi0 => h1 i hi0 hi, fun hz j hj hjz heq => ?_⟩⟩
            · by_cases hi0 : i = 0
              · subst hi0; exact hr
              · have := does_range (h1 i (by omega) hi)
                rw [hw]; omega
            · have := h2 (i / 2) (by rw [evens_length]; omega)
              rw [mem_take_rd _ _ _ (by rw [evens_length]; omega)] at this
              refine this ⟨j / 2, by omega, ?_⟩
              rw [rd_evens, rd_evens, show 2 * (j / 2) = j by omega, show 2 * (i / 2) = i by omega]
              exact heq
          · rintro ⟨_, _, h3⟩
            refine ⟨fun i' a c => (h3 i' c).2.1 a, fun k hk hm => ?_⟩
            rw [evens_length] at hk
            rw [mem_take_rd _ _ _ (by rw [evens_length]; omega)] at hm
            obtain ⟨l, hl, he⟩ := hm
            rw [rd_evens, rd_evens] at he
            exact (h3 (2 * k) (by omega)).2.2 (by omega) (2 * l) (by omega) (by omega) he
      · refine ⟨false, Ev.bind (isGraph_impl n xs hn) (ev_pos hg (ev_neg (by omega) (ev_pos (by omega) (ev_bind0 (isClaim_eq _ _ _) ?_)))), ⟨fun h => absurd h (by decide), fun h => absurd (h.2.2 0 (by omega)).1 hr⟩⟩
        rw [decide_eq_false hr]
        exact hj
theorem copyG_l0 (n : Int) (xs : List (List Int)) (hn : xs.length ≤ 1048576) (hi : ∀ y ∈ xs, y.length ≤ 1048576) : ∀ (zs : List (List Int)) (i : Nat) (m : Int) (acc : List (List Int)), xs.drop i = zs → acc.length = i → Ev (fun k => spec_l4Copy.l0 k (i : Int) n xs m acc) (m, acc ++ zs) := by
  intro zs
  induction zs with
  | nil =>
    intro i m acc h hl
    have := at_end h
    refine Ev.step (fun k => by rw [spec_l4Copy.l0]) ?_
    exact ev_neg (by omega) (ev_eq (Ev.now _) (by simp))
  | cons z zs ih =>
    intro i m acc h hl
    obtain ⟨hlt, hz, h2, _⟩ := at_drop h
    have hr : rd_L1 xs (i : Int) = z := getD_at hz
    have hm := hi z (List.mem_of_getElem? hz)
    refine Ev.step (fun k => by rw [spec_l4Copy.l0]) ?_
    refine ev_pos (by omega) (ev_bind0 (a := ([] : List Int)) rfl (ev_pos (by omega) ?_))
    rw [hr, wrap_id (x := (i : Int) + 1) (by omega) (by omega)]
    refine ev_pos (by simp only [List.length_nil]; omega) (ev_pos (by omega) ?_)
    refine ev_eq (ih (i + 1) m (acc ++ [[] ++ z]) h2 (by first | (simp; done) | (simp; omega))) (by simp)
theorem copyG_ev (n : Int) (xs : List (List Int)) (hn : xs.length ≤ 1048576) (hi : ∀ y ∈ xs, y.length ≤ 1048576) : Ev (fun k => spec_l4Copy.f k n xs) (n, xs) := by
  unfold spec_l4Copy.f
  simpa using copyG_l0 n xs hn hi xs 0 n [] rfl rfl
def inR (n a : Int) : Bool := decide (0 ≤ a ∧ a ≤ wrap64 (n - 1))
/-- Going up. -/
def upward : List Int → Bool
  | [] => true
  | [_] => true
  | a :: b :: r => decide (a < b) && upward (b :: r)
def isSet (n : Int) (xs : List (List Int)) (cs : List Int) : Bool := isGraph n xs && (cs.all (inR n) && upward cs)
theorem isSet_l0 (n : Int) (xs : List (List Int)) (cs : List Int) (ha : cs.length ≤ 1048576) : ∀ (zs : List Int) (i : Nat), cs.drop i = zs → Ev (fun k => impl_IsSet.l0 k cs cs (cs.length : Int) (i : Int) n xs) (zs.all (inR n) && upward (if i = 0 then zs else rd cs ((i : Int) - 1) :: zs)) := by
  intro zs
  induction zs with
  | nil =>
    intro i h
    have := at_end h
    refine Ev.step (fun k => by rw [impl_IsSet.l0]) (ev_neg (by omega) (ev_eq (Ev.now _) ?_))
    split <;> rfl
  | cons z zs ih =>
    intro i h
    obtain ⟨hlt, hz, h2, _⟩ := at_drop h
    have hr : rd cs (i : Int) = z := rd_get hz
    have hi1 : Ev (fun k => impl_IsSet.l0 k cs cs (cs.length : Int) (wrap64 ((i : Int) + 1)) n xs) (zs.all (inR n) && upward (z :: zs)) := by
      rw [wrap_id (x := (i : Int) + 1) (by omega) (by omega)]
      have := ih (i + 1) h2
      rw [if_neg (by omega), show ((i + 1 : Nat) : Int) - 1 = (i : Int) by omega, hr] at this
      exact this
    refine Ev.step (fun k => by rw [impl_IsSet.l0]) ?_
    refine ev_pos (by omega) (ev_pos (by omega) (ev_pos (by omega) ?_))
    rw [hr]
    refine ev_bind0 (isClaim_eq _ _ _) (ev_ite (fun e => ?_) (fun e => ev_eq (Ev.now _) ?_))
    · have hz1 : inR n z = true := e
      by_cases h0 : i = 0
      · subst h0
        refine ev_neg (by omega) (ev_eq hi1 ?_)
        rw [if_pos rfl, List.all_cons, hz1, Bool.true_and]
      · rw [wrap_id (x := (i : Int) - 1) (by omega) (by omega)]
        refine ev_pos (by omega) (ev_pos (by omega) (ev_pos (by omega) (ev_ite (fun e2 => ev_eq (Ev.now _) ?_) (fun e2 => ev_eq hi1 ?_))))
        · rw [if_neg h0, show upward (rd cs ((i : Int) - 1) :: z :: zs) = (decide (rd cs ((i : Int) - 1) < z) && upward (z :: zs)) from rfl, decide_eq_false (by omega), Bool.false_and, Bool.and_false]
        · rw [if_neg h0, show upward (rd cs ((i : Int) - 1) :: z :: zs) = (decide (rd cs ((i : Int) - 1) < z) && upward (z :: zs)) from rfl, decide_eq_true (by omega), Bool.true_and, List.all_cons, hz1, Bool.true_and]
    · have hz1 : inR n z = false := by simpa [inR] using e
      rw [List.all_cons, hz1, Bool.false_and, Bool.false_and]
theorem isSet_ev (n : Int) (xs : List (List Int)) (cs : List Int) (hn : xs.length ≤ 1048576) (ha : cs.length ≤ 1048576) : Ev (fun k => impl_IsSet.f k n xs cs) (isSet n xs cs) := by
  unfold impl_IsSet.f isSet
  refine Ev.bind (isGraph_impl n xs hn) (ev_ite (fun e => ?_) (fun e => ev_eq (Ev.now _) ?_))
  · rw [e, Bool.true_and]
    exact isSet_l0 n xs cs ha cs 0 rfl
  · rw [show isGraph n xs = false by simpa using e, Bool.false_and]
theorem two {r : List Int} (h : r.length = 2) : r = [rd r 0, rd r 1] := by
  match r, h with
  | [a, b], _ => rfl
def insR (p : List Int) : List (List Int) → List (List Int)
  | [] => [p]
  | z :: zs => if lexLt p z = true then p :: z :: zs else z :: insR p zs
theorem insR_perm (p : List Int) : ∀ zs : List (List Int), (insR p zs).Perm (p :: zs) := by
  intro zs
  induction zs with
  | nil => exact List.Perm.refl _
  | cons z zs ih =>
    unfold insR
    split
    · exact List.Perm.refl _
    · exact (List.Perm.cons z ih).trans (List.Perm.swap p z zs)
theorem addS_done (n x y : Int) (S T : List (List Int)) (hg : isGraph n S = true) (hn : S.length ≤ 1048576) (R : Int × List (List Int) × Bool) (hR : Ev (fun k => spec_AddAttack.j2 k n S n T) R) : ∀ (zs : List (List Int)) (i : Nat) (acc : List (List Int)), S.drop i = zs → acc.length ≤ i + 1 → acc ++ zs = T → Ev (fun k => spec_AddAttack.l0 k x y true (i : Int) n S n acc) R := by
  intro zs
  induction zs with
  | nil =>
    intro i acc h hl he
    have := at_end h
    rw [List.append_nil] at he
    subst he
    refine Ev.step (fun k => by rw [spec_AddAttack.l0]) (ev_neg (by omega) (Ev.step (fun k => by rw [spec_AddAttack.j1]) ?_))
    exact ev_neg (by decide) (ev_pos rfl hR)
  | cons z zs ih =>
    intro i acc h hl he
    obtain ⟨hlt, hz, h2, _⟩ := at_drop h
    have hr : rd_L1 S (i : Int) = z := getD_at hz
    have hlen := (isGraph_row hg (List.mem_of_getElem? hz)).1
    refine Ev.step (fun k => by rw [spec_AddAttack.l0]) (ev_pos (by omega) (Ev.bind (isGraph_spec n S hn) ?_))
    rw [hg]
    refine Ev.step (fun k => by rw [spec_AddAttack.j1]) (ev_pos rfl (ev_pos (by omega) (ev_pos (by omega) (ev_pos rfl (ev_bind0 (a := ([] : List Int)) rfl ?_)))))
    rw [hr, wrap_id (by omega) (by omega)]
    refine ev_pos (by simp only [List.length_nil]; omega) (ev_pos (by omega) ?_)
    exact ih (i + 1) (acc ++ [[] ++ z]) h2 (by rw [List.length_append, List.length_singleton]; omega) (by rw [List.nil_append, List.append_assoc]; exact he)
theorem addS_l0 (n x y : Int) (S : List (List Int)) (hg : isGraph n S = true) (hn : S.length ≤ 1048576) (R : Int × List (List Int) × Bool) (hR : Ev (fun k => spec_AddAttack.j2 k n S n (insR [x, y] S)) R) : ∀ (zs : List (List Int)) (i : Nat) (acc : List (List Int)), S.drop i = zs → acc.length ≤ i → acc ++ insR [x, y] zs = insR [x, y] S → Ev (fun k => spec_AddAttack.l0 k x y false (i : Int) n S n acc) R := by
  intro zs
  induction zs with
  | nil =>
    intro i acc h hl he
    have := at_end h
    refine Ev.step (fun k => by rw [spec_AddAttack.l0]) (ev_neg (by omega) (Ev.step (fun k => by rw [spec_AddAttack.j1]) ?_))
    refine ev_neg (by decide) (ev_neg (by decide) ?_)
    have hla : acc.length ≤ 1048577 := by
      have h3 := congrArg List.length he
      rw [List.length_append, (insR_perm [x, y] S).length_eq, List.length_cons] at h3
      omega
    refine ev_pos (by omega) ?_
    rw [show acc ++ [[x, y]] = insR [x, y] S from he]
    exact hR
  | cons z zs ih =>
    intro i acc h hl he
    obtain ⟨hlt, hz, h2, _⟩ := at_drop h
    have hr : rd_L1 S (i : Int) = z := getD_at hz
    have hlen := (isGraph_row hg (List.mem_of_getElem? hz)).1
    refine Ev.step (fun k => by rw [spec_AddAttack.l0]) (ev_pos (by omega) (Ev.bind (isGraph_spec n S hn) ?_))
    rw [hg]
    refine Ev.step (fun k => by rw [spec_AddAttack.j1]) (ev_pos rfl (ev_pos (by omega) (ev_pos (by omega) (ev_neg (by decide) ?_))))
    rw [hr, wrap_id (by omega) (by omega)]
    have before : lexLt [x, y] z = true → Ev (fun k => (some (acc ++ [[x, y]]) : Option (List (List Int))).bind fun u => (some ([] : List Int)).bind fun v => if v.length + z.length < 17592186044416 then (if u.length < 5864062014805 then spec_AddAttack.l0 k x y true ((i : Int) + 1) n S n (u ++ [v ++ z]) else none) else none) R := by
      intro e
      refine ev_bind0 rfl (ev_bind0 rfl (ev_pos (by simp only [List.length_nil]; omega) (ev_pos (by rw [List.length_append, List.length_singleton]; omega) ?_)))
      refine addS_done n x y S (insR [x, y] S) hg hn R hR zs (i + 1) _ h2 (by rw [List.length_append, List.length_append, List.length_singleton, List.length_singleton]; omega) ?_
      rw [← he]
      unfold insR
      rw [if_pos e, List.nil_append, List.append_assoc, List.append_assoc]
      rfl
    have behind : ¬ lexLt [x, y] z = true → Ev (fun k => (some ([] : List Int)).bind fun v => if v.length + z.length < 17592186044416 then (if acc.length < 5864062014805 then spec_AddAttack.l0 k x y false ((i : Int) + 1) n S n (acc ++ [v ++ z]) else none) else none) R := by
      intro e
      refine ev_bind0 rfl (ev_pos (by simp only [List.length_nil]; omega) (ev_pos (by omega) ?_))
      refine ih (i + 1) _ h2 (by rw [List.length_append, List.length_singleton]; omega) ?_
      rw [← he, List.nil_append, List.append_assoc]
      conv => rhs; unfold insR
      rw [if_neg e]
      rfl
    have hlx : lexLt [x, y] z = true ↔ x < rd z 0 ∨ x = rd z 0 ∧ y < rd z 1 := by
      unfold lexLt
      rw [decide_eq_true_eq]
      exact Iff.rfl
    refine ev_pos (by omega) (ev_ite (fun e1 => ev_pos (by omega) (before (hlx.2 (by omega)))) (fun e1 => ev_ite (fun e2 => ev_pos (by omega) (ev_ite (fun e3 => ev_pos (by omega) (before (hlx.2 (by omega)))) (fun e3 => behind (fun e => ?_)))) (fun e2 => behind (fun e => ?_))))
    · have := hlx.1 e; omega
    · have := hlx.1 e; omega
/-! the game of two: who used the claims of μ and said c last -/
theorem attackers_bd {n : Int} {xs : List (List Int)} {c q : Int} (h : q ∈ attackers n xs c) : 0 ≤ q ∧ q < n ∧ n ≤ 10 := by
  unfold attackers at h
  split at h
  · rename_i hg
    obtain ⟨r, hr, e⟩ := List.mem_map.1 h
    have h1 := isGraph_row hg (List.mem_filter.1 hr).1
    have h2 := isGraph_n hg
    omega
  · exact absurd h (by simp)
theorem w_bit0 (μ : Nat) (q : Int) (hμ : μ < 1024) (hq : 0 ≤ q ∧ q < 10) : (Go.bits .and .i64 (shr .i64 (μ : Int) q) 1 = 0) ↔ ¬ μ.testBit q.toNat = true := by
  obtain ⟨i, rfl⟩ : ∃ i : Nat, q = (i : Int) := ⟨q.toNat, by omega⟩
  have h1 : shr .i64 (μ : Int) (i : Int) = ((μ / 2 ^ i : Nat) : Int) := by
    unfold shr
    rw [Int.toNat_natCast, show min i IntKind.i64.bits = i from Nat.min_eq_left (by show i ≤ 64; omega)]
    simp
  have h2 : μ / 2 ^ i ≤ μ := Nat.div_le_self _ _
  have h3 : ∀ m : Nat, m < 1024 → Go.bits .and .i64 (m : Int) 1 = ((m % 2 : Nat) : Int) := by
    intro m hm
    show IntKind.i64.wrap ((BitVec.ofInt 64 (m : Int) &&& BitVec.ofInt 64 1).toNat : Int) = _
    have e : (BitVec.ofInt 64 (m : Int) &&& BitVec.ofInt 64 1).toNat = m % 2 := by
      rw [BitVec.ofInt_natCast, show BitVec.ofInt 64 1 = BitVec.ofNat 64 1 from rfl, BitVec.toNat_and, BitVec.toNat_ofNat, BitVec.toNat_ofNat, Nat.mod_eq_of_lt (show m < 2 ^ 64 by omega), Nat.mod_eq_of_lt (show 1 < 2 ^ 64 by decide), Nat.and_one_is_mod]
    rw [e]
    simp only [i64_w]
    exact wrap_id (x := ((m % 2 : Nat) : Int)) (by omega) (by omega)
  rw [h1, h3 _ (by omega), Int.toNat_natCast, Nat.testBit_eq_decide_div_mod_eq, decide_eq_true_eq]
  omega
theorem w_shl (q : Int) (hq : 0 ≤ q ∧ q < 10) : shl .i64 1 q = ((2 ^ q.toNat : Nat) : Int) := by
  have h : ∀ n : Fin 10, shl .i64 1 ((n.val : Nat) : Int) = ((2 ^ n.val : Nat) : Int) := by decide +kernel
  have := h ⟨q.toNat, by omega⟩
  rwa [show (((⟨q.toNat, by omega⟩ : Fin 10).val : Nat) : Int) = q by show (q.toNat : Int) = q; omega] at this
theorem w_pow (q : Int) (hq : 0 ≤ q ∧ q < 10) : 2 ^ q.toNat < 1024 := Nat.lt_of_lt_of_le (Nat.pow_lt_pow_right (a := 2) (by decide) (show q.toNat < 10 by omega)) (by decide)
theorem w_or (a b : Nat) (ha : a < 1024) (hb : b < 1024) : Go.bits .or .i64 (a : Int) (b : Int) = ((a ||| b : Nat) : Int) ∧ a ||| b < 1024 := by
  have hl : a ||| b < 1024 := Nat.or_lt_two_pow (n := 10) ha hb
  refine ⟨?_, hl⟩
  show IntKind.i64.wrap ((BitVec.ofInt 64 (a : Int) ||| BitVec.ofInt 64 (b : Int)).toNat : Int) = _
  have e : (BitVec.ofInt 64 (a : Int) ||| BitVec.ofInt 64 (b : Int)).toNat = a ||| b := by
    rw [BitVec.ofInt_natCast, BitVec.ofInt_natCast, BitVec.toNat_or, BitVec.toNat_ofNat, BitVec.toNat_ofNat, Nat.mod_eq_of_lt (show a < 2 ^ 64 by omega), Nat.mod_eq_of_lt (show b < 2 ^ 64 by omega)]
  rw [e]
  simp only [i64_w]
  exact wrap_id (x := ((a ||| b : Nat) : Int)) (by omega) (by omega)
theorem w_up (μ : Nat) (q : Nat) (h : ¬ μ.testBit q = true) : μ + 1 ≤ μ ||| 2 ^ q := by
  have h1 : μ ≤ μ ||| 2 ^ q := Nat.left_le_or
  rcases Nat.lt_or_ge μ (μ ||| 2 ^ q) with h2 | h2
  · exact h2
  · exact absurd (by have e : μ ||| 2 ^ q = μ := by omega
                     rw [← e, Nat.testBit_or, Nat.testBit_two_pow_self, Bool.or_true]) h
/-- Whether the one who proposed wins. -/
def winM (n : Int) (xs : List (List Int)) : Nat → Nat → Int → Bool
  | 0, _, _ => false
  | d + 1, μ, c => (attackers n xs c).all fun o => (attackers n xs o).any fun q => !μ.testBit q.toNat && winM n xs d (μ ||| 2 ^ q.toNat) q
theorem w_wf {x : Int} (h0 : -9223372036854775808 ≤ x) (h1 : x ≤ 9223372036854775807) : (Lit.int .i64 x).wf = true := by
  simp [Lit.wf, IntKind.min, IntKind.max, IntKind.bits, IntKind.signed]
  omega
theorem winsI_l1 (n : Int) (xs : List (List Int)) (μ : Nat) (hμ : μ < 1024) (t : List Int) (i : Int) (t2 : List Int) (ht2 : t2.length ≤ 1048576) (W : Int → Bool) (R : Bool) (hR : Ev (fun k => impl_wins.l0 k (μ : Int) true t t.length (wrap64 (i + 1)) n xs) R) (hW : ∀ q ∈ t2, (0 ≤ q ∧ q < 10) ∧ (¬ μ.testBit q.toNat = true → Ev (fun k => impl_wins.f k n xs (((μ ||| 2 ^ q.toNat : Nat)) : Int) q) (W q))) : ∀ (zs : List Int) (j : Nat), t2.drop j = zs → Ev (fun k => impl_wins.l1 k (μ : Int) true false t t.length i t2 t2.length (j : Int) n xs) (if (zs.any fun q => !μ.testBit q.toNat && W q) = true then R else false) := by
  intro zs
  induction zs with
  | nil =>
    intro j h
    have := at_end h
    refine Ev.step (fun k => by rw [impl_wins.l1]) (ev_neg (by omega) (ev_neg (by decide) (ev_eq (Ev.now _) ?_)))
    simp
  | cons z zs ih =>
    intro j h
    obtain ⟨hlt, hz, h2, _⟩ := at_drop h
    obtain ⟨hq, hw⟩ := hW z (List.mem_of_getElem? hz)
    refine Ev.step (fun k => by rw [impl_wins.l1]) ?_
    rw [rd_get hz, wrap_id (x := (j : Int) + 1) (by omega) (by omega), w_shl z hq, (w_or μ _ hμ (w_pow z hq)).1]
    refine ev_pos (by omega) (ev_pos (by omega) (ev_pos (by omega) (ev_pos hq.1 ?_)))
    rw [List.any_cons]
    refine ev_ite (fun e => ?_) (fun e => ?_)
    · have hb := (w_bit0 μ z hμ hq).1 e
      refine Ev.bind (hw hb) ?_
      rw [show (μ.testBit z.toNat) = false by simpa using hb, Bool.not_false, Bool.true_and]
      refine ev_ite (fun e2 => ?_) (fun e2 => ?_)
      · rw [e2, Bool.true_or, if_pos rfl]
        exact hR
      · rw [show W z = false by simpa using e2, Bool.false_or]
        exact ih (j + 1) h2
    · have hb : μ.testBit z.toNat = true := Decidable.of_not_not (fun hn => e ((w_bit0 μ z hμ hq).2 hn))
      rw [hb, Bool.not_true, Bool.false_and, Bool.false_or]
      exact ih (j + 1) h2
theorem winsI_l0 (n : Int) (xs : List (List Int)) (hn : xs.length ≤ 1048576) (μ : Nat) (hμ : μ < 1024) (t : List Int) (ht : t.length ≤ 1048576) (W : Int → Bool) (hW : ∀ q : Int, (0 ≤ q ∧ q < 10) → ¬ μ.testBit q.toNat = true → Ev (fun k => impl_wins.f k n xs (((μ ||| 2 ^ q.toNat : Nat)) : Int) q) (W q)) : ∀ (zs : List Int) (i : Nat), t.drop i = zs → Ev (fun k => impl_wins.l0 k (μ : Int) true t t.length (i : Int) n xs) (zs.all fun o => (attackers n xs o).any fun q => !μ.testBit q.toNat && W q) := by
  intro zs
  induction zs with
  | nil =>
    intro i h
    have := at_end h
    exact Ev.step (fun k => by rw [impl_wins.l0]) (ev_neg (by omega) (ev_eq (Ev.now _) (by simp)))
  | cons z zs ih =>
    intro i h
    obtain ⟨hlt, hz, h2, _⟩ := at_drop h
    have hal := attackers_length n xs z
    refine Ev.step (fun k => by rw [impl_wins.l0]) (ev_pos (by omega) (ev_pos (by omega) (ev_pos (by omega) ?_)))
    rw [rd_get hz]
    refine Ev.bind (attackers_impl n xs z hn) ?_
    have h1 : wrap64 ((i : Int) + 1) = ((i + 1 : Nat) : Int) := by rw [wrap_id (by omega) (by omega)]; omega
    refine ev_eq (winsI_l1 n xs μ hμ t (i : Int) _ (by omega) W _ (by rw [h1]; exact ih (i + 1) h2) (fun q hq => ⟨⟨(attackers_bd hq).1, by have := attackers_bd hq; omega⟩, hW q ⟨(attackers_bd hq).1, by have := attackers_bd hq; omega⟩⟩) _ 0 rfl) ?_
    rw [List.all_cons, List.drop_zero]
    generalize ((attackers n xs z).any fun q => !μ.testBit q.toNat && W q) = b
    cases b with
    | true => rw [if_pos rfl, Bool.true_and]
    | false => rw [if_neg (by decide), Bool.false_and]
theorem winsI (n : Int) (xs : List (List Int)) (hn : xs.length ≤ 1048576) : ∀ (d μ : Nat) (c : Int), (0 ≤ c ∧ c < 10) → μ < 1024 → 1024 ≤ d + μ → Ev (fun k => impl_wins.f k n xs (μ : Int) c) (winM n xs d μ c) := by
  intro d
  induction d with
  | zero => intro μ c hc h1 h2; omega
  | succ d ih =>
    intro μ c hc h1 h2
    have hal := attackers_length n xs c
    refine Ev.step (fun k => by rw [impl_wins.f]) (ev_pos (w_wf (by omega) (by omega)) (ev_pos (w_wf (by omega) (by omega)) (Ev.bind (attackers_impl n xs c hn) ?_)))
    exact winsI_l0 n xs hn μ h1 _ (by omega) (fun q => winM n xs d (μ ||| 2 ^ q.toNat) q) (fun q hq hb => ih _ _ hq (w_or μ _ h1 (w_pow q hq)).2 (by have := w_up μ q.toNat hb; omega)) _ 0 rfl
def canV (n : Int) (xs : List (List Int)) (c : Int) : Bool := isGraph n xs && (decide (0 ≤ c ∧ c ≤ n - 1) && winM n xs 1024 (2 ^ c.toNat) c)
theorem can_impl (n : Int) (xs : List (List Int)) (c : Int) (hn : xs.length ≤ 1048576) : Ev (fun k => impl_CanWin.f k n xs c) (canV n xs c) := by
  unfold impl_CanWin.f canV
  refine Ev.bind (isGraph_impl n xs hn) (ev_ite (fun e => ?_) (fun e => ev_eq (Ev.now _) ?_))
  · have hb := isGraph_n e
    rw [e, Bool.true_and, isClaim_eq, wrap_id (by omega) (by omega)]
    refine ev_bind0 rfl (ev_ite (fun e2 => ?_) (fun e2 => ev_eq (Ev.now _) ?_))
    · have h2 : 0 ≤ c ∧ c ≤ n - 1 := by simpa using e2
      have hc : 0 ≤ c ∧ c < 10 := by omega
      rw [e2, Bool.true_and, w_shl c hc]
      exact ev_pos h2.1 (Ev.bind (winsI n xs hn 1024 _ c hc (w_pow c hc) (Nat.le_add_right _ _)) (Ev.now _))
    · rw [show decide (0 ≤ c ∧ c ≤ n - 1) = false by simpa using e2, Bool.false_and]
  · rw [show isGraph n xs = false by simpa using e, Bool.false_and]
def maskV (n : Int) : List Int → Int → Int
  | [], m => m
  | z :: zs, m => if 0 ≤ z ∧ z ≤ wrap64 (n - 1) then maskV n zs (Go.bits .or .i64 m (shl .i64 1 z)) else maskV n zs m
theorem mask_l0 (n : Int) (xs : List (List Int)) (l : List Int) (hl : l.length ≤ 1048576) (c : Int) (R : Int) : ∀ (zs : List Int) (i : Nat) (m : Int), l.drop i = zs → Ev (fun k => (impl_AnswersTo.f k n xs l c).bind fun t => impl_BestAnswer.l1 k (maskV n zs m) t (t.length : Int) 0 n xs) R → Ev (fun k => impl_BestAnswer.l0 k l c m l l.length (i : Int) n xs) R := by
  intro zs
  induction zs with
  | nil =>
    intro i m h hR
    have := at_end h
    unfold maskV at hR
    exact Ev.step (fun k => by rw [impl_BestAnswer.l0]) (ev_neg (by omega) hR)
  | cons z zs ih =>
    intro i m h hR
    obtain ⟨hlt, hz, h2, _⟩ := at_drop h
    refine Ev.step (fun k => by rw [impl_BestAnswer.l0]) (ev_pos (by omega) (ev_pos (by omega) (ev_pos (by omega) ?_)))
    rw [rd_get hz, wrap_id (x := (i : Int) + 1) (by omega) (by omega), isClaim_eq]
    unfold maskV at hR
    refine ev_bind0 rfl (ev_ite (fun e => ?_) (fun e => ?_))
    · have e2 : 0 ≤ z ∧ z ≤ wrap64 (n - 1) := by simpa using e
      rw [if_pos e2] at hR
      exact ev_pos e2.1 (ih (i + 1) _ h2 hR)
    · rw [if_neg (by simpa using e)] at hR
      exact ih (i + 1) _ h2 hR
theorem maskV_graph (n : Int) (hn : 0 ≤ n ∧ n ≤ 10) : ∀ (zs : List Int) (μ : Nat), μ < 1024 → ∃ ν : Nat, ν < 1024 ∧ maskV n zs (μ : Int) = (ν : Int) ∧ ∀ i : Nat, (i : Int) < n → (ν.testBit i = true ↔ (μ.testBit i = true ∨ (i : Int) ∈ zs)) := by
  intro zs
  induction zs with
  | nil => exact fun μ h => ⟨μ, h, rfl, fun i _ => by simp⟩
  | cons z zs ih =>
    intro μ h
    unfold maskV
    rw [wrap_id (x := n - 1) (by omega) (by omega)]
    by_cases hz : 0 ≤ z ∧ z ≤ n - 1
    · have hz2 : 0 ≤ z ∧ z < 10 := by omega
      obtain ⟨h3, h4⟩ := w_or μ _ h (w_pow z hz2)
      rw [if_pos hz, w_shl z hz2, h3]
      obtain ⟨ν, h5, h6, h7⟩ := ih _ h4
      refine ⟨ν, h5, h6, fun i hi => ?_⟩
      rw [h7 i hi, Nat.testBit_or, Bool.or_eq_true, Nat.testBit_two_pow, decide_eq_true_eq, List.mem_cons]
      have : z.toNat = i ↔ (i : Int) = z := by omega
      rw [this, or_assoc]
    · rw [if_neg hz]
      obtain ⟨ν, h5, h6, h7⟩ := ih μ h
      refine ⟨ν, h5, h6, fun i hi => ?_⟩
      rw [h7 i hi, List.mem_cons]
      have : ¬ (i : Int) = z := by omega
      simp [this]
theorem bestI_l1 (n : Int) (xs : List (List Int)) (hn : xs.length ≤ 1048576) (ν : Nat) (hν : ν < 1024) (t : List Int) (ht : t.length ≤ 1048576) (hq : ∀ q ∈ t, 0 ≤ q ∧ q < 10) : ∀ (zs : List Int) (j : Nat), t.drop j = zs → Ev (fun k => impl_BestAnswer.l1 k (ν : Int) t t.length (j : Int) n xs) ((zs.find? fun q => winM n xs 1024 (ν ||| 2 ^ q.toNat) q).getD (-1)) := by
  intro zs
  induction zs with
  | nil =>
    intro j h
    have := at_end h
    exact Ev.step (fun k => by rw [impl_BestAnswer.l1]) (ev_neg (by omega) (ev_eq (Ev.now _) (by simp)))
  | cons z zs ih =>
    intro j h
    obtain ⟨hlt, hz, h2, _⟩ := at_drop h
    have hz2 := hq z (List.mem_of_getElem? hz)
    obtain ⟨h3, h4⟩ := w_or ν _ hν (w_pow z hz2)
    refine Ev.step (fun k => by rw [impl_BestAnswer.l1]) ?_
    rw [rd_get hz, wrap_id (x := (j : Int) + 1) (by omega) (by omega), w_shl z hz2, h3]
    refine ev_pos (by omega) (ev_pos (by omega) (ev_pos (by omega) (ev_pos hz2.1 (Ev.bind (winsI n xs hn 1024 _ z hz2 h4 (Nat.le_add_right _ _)) ?_))))
    rw [List.find?_cons]
    refine ev_ite (fun e => ?_) (fun e => ?_)
    · rw [e]
      exact Ev.now _
    · rw [show winM n xs 1024 (ν ||| 2 ^ z.toNat) z = false by simpa using e]
      exact ih (j + 1) h2
theorem best_impl (n : Int) (xs : List (List Int)) (hn : xs.length ≤ 1048576) (l : List Int) (hl : l.length ≤ 1048576) (c : Int) : ∃ ν : Nat, ν < 1024 ∧ (isGraph n xs = true → ∀ i : Nat, (i : Int) < n → ((i : Int) ∈ l ↔ ν.testBit i = true)) ∧ Ev (fun k => impl_BestAnswer.f k n xs l c) (((answers n xs l c).find? fun q => winM n xs 1024 (ν ||| 2 ^ q.toNat) q).getD (-1)) := by
  have hal := attackers_length n xs c
  have hll : (answers n xs l c).length ≤ 1048576 := Nat.le_trans (List.length_filter_le _ _) (by omega)
  unfold impl_BestAnswer.f
  by_cases hg : isGraph n xs = true
  · obtain ⟨ν, h1, h2, h3⟩ := maskV_graph n (isGraph_n hg) l 0 (by omega)
    refine ⟨ν, h1, fun _ i hi => ?_, mask_l0 n xs l hl c _ l 0 0 rfl (Ev.bind (answers_impl n xs l c hn (by omega)) ?_)⟩
    · rw [h3 i hi]
      simp
    · rw [show ((0 : Nat) : Int) = 0 from rfl] at h2
      rw [h2]
      refine bestI_l1 n xs hn ν h1 _ hll (fun q hq => ?_) _ 0 rfl
      have := attackers_bd (List.mem_filter.1 hq).1
      omega
  · have ha : answers n xs l c = [] := by
      unfold answers attackers
      rw [if_neg hg]
      rfl
    refine ⟨0, by omega, fun h => absurd h hg, mask_l0 n xs l hl c _ l 0 0 rfl (Ev.bind (answers_impl n xs l c hn (by omega)) ?_)⟩
    rw [ha]
    exact Ev.step (fun k => by rw [impl_BestAnswer.l1]) (ev_neg (by simp) (ev_eq (Ev.now _) (by simp)))
theorem compact_mem (zs : List Int) (y : Int) : y ∈ Go.Lib.compact zs ↔ y ∈ zs := by
  unfold Go.Lib.compact Go.Lib.compactUpTo
  constructor
  · intro h
    obtain ⟨j, hj, rfl⟩ := List.mem_map.1 h
    have hj2 := List.mem_range.1 (List.mem_filter.1 hj).1
    simp [hj2]
  · intro h
    obtain ⟨j, hj, he⟩ := List.getElem_of_mem h
    have key : ∀ j, (hj : j < zs.length) → zs[j] = y → y ∈ ((List.range zs.length).filter (Go.Lib.keeps zs.toArray)).map (zs.toArray[·]!) := by
      intro j
      induction j with
      | zero =>
        intro hj he
        exact List.mem_map.2 ⟨0, List.mem_filter.2 ⟨List.mem_range.2 hj, by simp [Go.Lib.keeps]⟩, by simp [hj, he]⟩
      | succ j ih =>
        intro hj he
        by_cases hk : Go.Lib.keeps zs.toArray (j + 1) = true
        · exact List.mem_map.2 ⟨j + 1, List.mem_filter.2 ⟨List.mem_range.2 hj, hk⟩, by simp [hj, he]⟩
        · refine ih (by omega) ?_
          have : zs[j + 1] = zs[j] := by simpa [Go.Lib.keeps, hj, show j < zs.length by omega] using hk
          rw [← this, he]
    exact key j hj he
theorem compact_asc (zs : List Int) (h : zs.Pairwise (· ≤ ·)) : (Go.Lib.compact zs).Pairwise (· < ·) := by
  unfold Go.Lib.compact Go.Lib.compactUpTo
  rw [List.pairwise_map]
  refine List.Pairwise.imp_of_mem ?_ (List.Pairwise.filter _ List.pairwise_lt_range)
  intro i j hi hj hij
  have hj2 := List.mem_range.1 (List.mem_filter.1 hj).1
  have hk := (List.mem_filter.1 hj).2
  have hk2 : ¬ zs[j] = zs[j - 1] := by
    have h1 : j = 0 ∨ ¬ zs[j] = zs[j - 1] := by simpa [Go.Lib.keeps, hj2, show j - 1 < zs.length by omega] using hk
    rcases h1 with h1 | h1
    · omega
    · exact h1
  have hp := List.pairwise_iff_getElem.1 h
  have h1 : zs[j - 1] ≤ zs[j] := hp (j - 1) j (by omega) hj2 (by omega)
  have h2 : zs[i] ≤ zs[j - 1] := by
    by_cases e : i = j - 1
    · subst e
      exact Int.le_refl _
    · exact hp i (j - 1) (by omega) (by omega) (by omega)
  simp only [List.getElem!_toArray, getElem!_pos zs i (by omega), getElem!_pos zs j hj2]
  omega
theorem sorted_asc (l : List Int) : (sorted_ l).Pairwise (· ≤ ·) := by
  have h := List.pairwise_mergeSort (le := fun x y : Int => decide (x ≤ y)) (by intro a b c h1 h2; simp at *; omega) (by intro a b; first | (simp; done) | (simp; omega)) l
  exact h.imp (fun h => by simpa using h)
theorem sorted_mem (l : List Int) (y : Int) : y ∈ sorted_ l ↔ y ∈ l := by
  unfold sorted_
  exact List.mem_mergeSort
/-- i, i + 1, .. (d of them), those that p takes. -/
def fromN (p : Int → Bool) : Nat → Nat → List Int
  | _, 0 => []
  | i, d + 1 => (if p (i : Int) = true then [(i : Int)] else []) ++ fromN p (i + 1) d
theorem fromN_mem (p : Int → Bool) (y : Int) : ∀ d i : Nat, y ∈ fromN p i d ↔ ((i : Int) ≤ y ∧ y < (i : Int) + d) ∧ p y = true := by
  intro d
  induction d with
  | zero =>
    intro i
    unfold fromN
    refine ⟨fun h => absurd h (by simp), fun h => ?_⟩
    have := h.1
    omega
  | succ d ih =>
    intro i
    unfold fromN
    rw [List.mem_append, ih (i + 1)]
    by_cases e : y = (i : Int)
    · subst e
      by_cases hp : p (i : Int) = true
      · rw [if_pos hp]
        refine ⟨fun _ => ⟨by omega, hp⟩, fun _ => .inl (by simp)⟩
      · rw [if_neg hp]
        refine ⟨fun h => ?_, fun h => absurd h.2 hp⟩
        rcases h with h | h
        · exact absurd h (by simp)
        · exact absurd h.2 hp
    · have h1 : ¬ y ∈ (if p (i : Int) = true then [(i : Int)] else []) := by
        split
        · simpa using e
        · simp
      constructor
      · rintro (h | h)
        · exact absurd h h1
        · exact ⟨by omega, h.2⟩
      · intro h
        exact .inr ⟨by omega, h.2⟩
theorem fromN_asc (p : Int → Bool) : ∀ d i : Nat, (fromN p i d).Pairwise (· < ·) := by
  intro d
  induction d with
  | zero => exact fun i => List.Pairwise.nil
  | succ d ih =>
    intro i
    unfold fromN
    split
    · refine List.pairwise_cons.2 ⟨fun y hy => ?_, ih (i + 1)⟩
      have := ((fromN_mem p y d (i + 1)).1 hy).1
      omega
    · exact ih (i + 1)
theorem fromN_len (p : Int → Bool) : ∀ d i : Nat, (fromN p i d).length ≤ d := by
  intro d
  induction d with
  | zero => exact fun i => Nat.le_refl _
  | succ d ih =>
    intro i
    unfold fromN
    have := ih (i + 1)
    rw [List.length_append]
    split
    · rw [List.length_singleton]; omega
    · rw [List.length_nil]; omega
theorem asc_same : ∀ (l m : List Int), l.Pairwise (· < ·) → m.Pairwise (· < ·) → (∀ y, y ∈ l ↔ y ∈ m) → l = m
  | [], [], _, _, _ => rfl
  | [], b :: m, _, _, h => by have := (h b).2 (by simp); simp at this
  | a :: l, [], _, _, h => by have := (h a).1 (by simp); simp at this
  | a :: l, b :: m, hl, hm, h => by
    rw [List.pairwise_cons] at hl hm
    have hab : a = b := by
      rcases List.mem_cons.1 ((h a).1 (by simp)) with e | h1
      · exact e
      · rcases List.mem_cons.1 ((h b).2 (by simp)) with e | h2
        · exact e.symm
        · have h3 := hm.1 a h1
          have h4 := hl.1 b h2
          omega
    subst hab
    rw [asc_same l m hl.2 hm.2 (fun y => ?_)]
    constructor
    · intro hy
      rcases List.mem_cons.1 ((h y).1 (List.mem_cons_of_mem _ hy)) with rfl | h1
      · have := hl.1 y hy
        omega
      · exact h1
    · intro hy
      rcases List.mem_cons.1 ((h y).2 (List.mem_cons_of_mem _ hy)) with rfl | h1
      · have := hm.1 y hy
        omega
      · exact h1
def hitB (xs : List (List Int)) (s : List Int) (k : Int) : Bool := xs.any fun r => decide (rd r 1 = k ∧ rd r 0 ∈ s)
def hits (n : Int) (xs : List (List Int)) (s : List Int) : List Int := if isGraph n xs = true then fromN (hitB xs s) 0 n.toNat else []
theorem hits_len (n : Int) (xs : List (List Int)) (s : List Int) : (hits n xs s).length ≤ 10 := by
  unfold hits
  split
  · rename_i h
    have h1 := isGraph_n h
    have h2 := fromN_len (hitB xs s) n.toNat 0
    omega
  · simp
theorem hitI_l0 (n : Int) (xs : List (List Int)) (s : List Int) (hn : xs.length ≤ 1048576) (hs : s.length ≤ 1048576) : ∀ (zs : List Int) (i : Nat) (acc : List Int), s.drop i = zs → i ≤ s.length → acc.length ≤ i * 1048576 → Ev (fun k => impl_HitBy.l0 k acc s (s.length : Int) (i : Int) n xs) (Go.Lib.compact (sorted_ (acc ++ zs.flatMap (victims n xs)))) := by
  intro zs
  induction zs with
  | nil =>
    intro i acc h hle hl
    have := at_end h
    refine Ev.step (fun k => by rw [impl_HitBy.l0]) (ev_neg (by omega) ?_)
    by_cases hi2 : acc.length < 4611686018427387904
    · refine ev_bind0 (a := sorted_ acc) ?_ (ev_bind0 (a := Go.Lib.compact (sorted_ acc)) rfl (ev_eq (Ev.now _) (by simp)))
      unfold slices_Sort_int_int.f
      rw [if_pos hi2]
    · exfalso
      omega
  | cons z zs ih =>
    intro i acc h hle hl
    obtain ⟨hlt, hz, h2, _⟩ := at_drop h
    have hr : rd s (i : Int) = z := rd_get hz
    have hv := victims_length n xs z
    refine Ev.step (fun k => by rw [impl_HitBy.l0]) (ev_pos (by omega) (ev_pos (by omega) (ev_pos (by omega) ?_)))
    rw [hr, wrap_id (by omega) (by omega)]
    refine Ev.bind (victims_impl n xs z hn) (ev_pos (by omega) (ev_eq (ih (i + 1) _ h2 (by omega) (by rw [List.length_append]; omega)) ?_))
    rw [List.flatMap_cons, List.append_assoc]
theorem hits_impl (n : Int) (xs : List (List Int)) (s : List Int) (hn : xs.length ≤ 1048576) (hs : s.length ≤ 1024) : Ev (fun k => impl_HitBy.f k n xs s) (hits n xs s) := by
  unfold impl_HitBy.f
  refine ev_eq (hitI_l0 n xs s hn (by omega) s 0 [] rfl (by omega) (by simp)) ?_
  have hasc : (hits n xs s).Pairwise (· < ·) := by
    unfold hits
    split
    · exact fromN_asc _ _ _
    · exact List.Pairwise.nil
  refine asc_same _ _ (compact_asc _ (sorted_asc _)) hasc (fun y => ?_)
  rw [compact_mem, sorted_mem, List.nil_append, List.mem_flatMap]
  have hd : ∀ a, y ∈ victims n xs a ↔ does n xs a y = true := fun a => by rw [← victims_mem, decide_eq_true_eq]
  unfold hits
  by_cases hg : isGraph n xs = true
  · rw [if_pos hg, fromN_mem]
    unfold hitB
    rw [List.any_eq_true]
    constructor
    · rintro ⟨a, ha, hy⟩
      rw [hd] at hy
      have hrange := does_range hy
      unfold does at hy
      rw [Bool.and_eq_true, List.any_eq_true] at hy
      obtain ⟨_, r, hr, he⟩ := hy
      have he := of_decide_eq_true he
      exact ⟨by have := isGraph_n hg; omega, r, hr, decide_eq_true ⟨he.2, by rw [he.1]; exact ha⟩⟩
    · rintro ⟨_, r, hr, he⟩
      have he := of_decide_eq_true he
      refine ⟨rd r 0, he.2, ?_⟩
      rw [hd]
      unfold does
      rw [Bool.and_eq_true, List.any_eq_true]
      exact ⟨hg, r, hr, decide_eq_true ⟨rfl, he.1⟩⟩
  · rw [if_neg hg]
    refine ⟨?_, fun h => absurd h (by simp)⟩
    rintro ⟨a, _, hy⟩
    rw [hd] at hy
    unfold does at hy
    rw [Bool.and_eq_true] at hy
    exact absurd hy.1 hg
def defends (n : Int) (xs : List (List Int)) (s : List Int) (c : Int) : Bool := isSet n xs s && (inR n c && (attackers n xs c).all fun a => decide (a ∈ hits n xs s))
theorem defI_l0 (h at_ : List Int) (hh : h.length ≤ 1048576) (ha : at_.length ≤ 1048576) : ∀ (zs : List Int) (i : Nat), at_.drop i = zs → Ev (fun k => impl_Defends.l0 k h at_ (at_.length : Int) (i : Int)) (zs.all fun a => decide (a ∈ h)) := by
  intro zs
  induction zs with
  | nil =>
    intro i he
    have := at_end he
    refine Ev.step (fun k => by rw [impl_Defends.l0]) ?_
    exact ev_neg (by omega) (Ev.now _)
  | cons z zs ih =>
    intro i he
    obtain ⟨hlt, hz, h2, _⟩ := at_drop he
    have hr : rd at_ (i : Int) = z := rd_get hz
    refine Ev.step (fun k => by rw [impl_Defends.l0]) (ev_pos (by omega) (ev_pos (by omega) (ev_pos (by omega) ?_)))
    rw [hr, wrap_id (by omega) (by omega)]
    refine Ev.bind (containsInt_ev h z (by omega)) (ev_ite (fun e => ev_eq (ih (i + 1) h2) ?_) (fun e => ev_eq (Ev.now _) ?_))
    · rw [List.all_cons, e, Bool.true_and]
    · rw [List.all_cons, show decide (z ∈ h) = false by simpa using e, Bool.false_and]
theorem defends_impl (n : Int) (xs : List (List Int)) (s : List Int) (c : Int) (hn : xs.length ≤ 1048576) (hs : s.length ≤ 1024) : Ev (fun k => impl_Defends.f k n xs s c) (defends n xs s c) := by
  unfold impl_Defends.f defends
  have hl := hits_len n xs s
  have hal := attackers_length n xs c
  have bad : Ev (fun k => impl_Defends.j0 k s c true n xs) false := Ev.step (fun k => by rw [impl_Defends.j0]) (ev_pos rfl (Ev.now _))
  refine Ev.bind (isSet_ev n xs s hn (by omega)) (ev_ite (fun e => ev_bind0 (isClaim_eq _ _ _) ?_) (fun e => ev_eq bad ?_))
  · rw [e, Bool.true_and]
    have hin : decide (0 ≤ c ∧ c ≤ wrap64 (n - 1)) = inR n c := rfl
    rw [hin]
    cases hc : inR n c with
    | true =>
      refine Ev.step (fun k => by rw [impl_Defends.j0]) (ev_neg (by decide) (Ev.bind (hits_impl n xs s hn hs) (Ev.bind (attackers_impl n xs c hn) ?_)))
      rw [Bool.true_and]
      exact defI_l0 _ _ (by omega) (by omega) _ 0 rfl
    | false =>
      rw [Bool.false_and]
      exact bad
  · rw [show isSet n xs s = false by simpa using e, Bool.false_and]
def defended (n : Int) (xs : List (List Int)) (s : List Int) : List Int := if isSet n xs s = true then fromN (defends n xs s) 0 n.toNat else []
theorem isSet_n {n : Int} {xs : List (List Int)} {s : List Int} (h : isSet n xs s = true) : 0 ≤ n ∧ n ≤ 10 := by
  unfold isSet at h
  exact isGraph_n (Bool.and_eq_true_iff.1 h).1
theorem defended_len (n : Int) (xs : List (List Int)) (s : List Int) : (defended n xs s).length ≤ 10 := by
  unfold defended
  split
  · rename_i h
    have h1 := isSet_n h
    have h2 := fromN_len (defends n xs s) n.toNat 0
    omega
  · simp
theorem defdI_l0 (n : Int) (xs : List (List Int)) (s : List Int) (hb : 0 ≤ n ∧ n ≤ 10) (hn : xs.length ≤ 1048576) (hs : s.length ≤ 1024) : ∀ (d i : Nat) (acc : List Int), (i : Int) + d = n → acc.length ≤ i → Ev (fun k => impl_DefendedBy.l0 k s acc n (i : Int) n xs) (acc ++ fromN (defends n xs s) i d) := by
  intro d
  induction d with
  | zero =>
    intro i acc h hl
    exact Ev.step (fun k => by rw [impl_DefendedBy.l0]) (ev_neg (by omega) (ev_eq (Ev.now _) (by simp [fromN])))
  | succ d ih =>
    intro i acc h hl
    refine Ev.step (fun k => by rw [impl_DefendedBy.l0]) (ev_pos (by omega) (Ev.bind (defends_impl n xs s (i : Int) hn hs) ?_))
    rw [wrap_id (by omega) (by omega)]
    unfold fromN
    refine ev_ite (fun e => ev_pos (by omega) (ev_eq (ih (i + 1) _ (by omega) (by rw [List.length_append, List.length_singleton]; omega)) ?_)) (fun e => ev_eq (ih (i + 1) acc (by omega) (by omega)) ?_)
    · rw [if_pos e, List.append_assoc]
    · rw [if_neg e, List.nil_append]
theorem defended_impl (n : Int) (xs : List (List Int)) (s : List Int) (hn : xs.length ≤ 1048576) (hs : s.length ≤ 1024) : Ev (fun k => impl_DefendedBy.f k n xs s) (defended n xs s) := by
  unfold impl_DefendedBy.f defended
  refine ev_bind0 rfl (Ev.bind (isSet_ev n xs s hn (by omega)) (ev_ite (fun e => ?_) (fun e => ?_)))
  · rw [if_pos e]
    have hb := isSet_n e
    exact defdI_l0 n xs s hb hn hs n.toNat 0 [] (by omega) (Nat.le_refl _)
  · rw [if_neg e]
    exact Ev.now _
theorem equalI_l0 (xs ys : List Int) (hn : xs.length ≤ 1048576) (hl : xs.length = ys.length) : ∀ (zs us : List Int) (i : Nat), xs.drop i = zs → ys.drop i = us → Ev (fun k => slices_Equal_int_int.l0 k xs ys (xs.length : Int) (i : Int)) (decide (zs = us)) := by
  intro zs
  induction zs with
  | nil =>
    intro us i h hu
    have := at_end h
    rw [List.drop_of_length_le (by omega)] at hu
    subst hu
    exact Ev.step (fun k => by rw [slices_Equal_int_int.l0]) (ev_neg (by omega) (ev_eq (Ev.now _) (by simp)))
  | cons z zs ih =>
    intro us i h hu
    obtain ⟨hlt, hz, h2, _⟩ := at_drop h
    cases us with
    | nil => have := at_end hu; omega
    | cons u us =>
      obtain ⟨_, hzu, hu2, _⟩ := at_drop hu
      refine Ev.step (fun k => by rw [slices_Equal_int_int.l0]) (ev_pos (by omega) (ev_pos (by omega) (ev_pos (by omega) (ev_pos (by omega) ?_))))
      rw [rd_get hz, rd_get hzu, wrap_id (by omega) (by omega)]
      exact ev_ite (fun e => ev_eq (ih us (i + 1) h2 hu2) (by simp [e])) (fun e => ev_eq (Ev.now _) (by simp [e]))
theorem equalI_ev (xs ys : List Int) (hn : xs.length ≤ 1048576) : Ev (fun k => slices_Equal_int_int.f k xs ys) (decide (xs = ys)) := by
  unfold slices_Equal_int_int.f
  refine ev_ite (fun e => equalI_l0 xs ys hn (by omega) xs ys 0 rfl rfl) (fun e => ev_eq (Ev.now _) ?_)
  exact (decide_eq_false (fun h => e (by rw [h]))).symm
theorem asc_sublist : ∀ (z a : List Int), a.Pairwise (· < ·) → z.Pairwise (· < ·) → (∀ x ∈ a, x ∈ z) → a.Sublist z := by
  intro z
  induction z with
  | nil =>
    intro a _ _ h
    cases a with
    | nil => exact List.Sublist.refl _
    | cons x a => exact absurd (h x List.mem_cons_self) (by simp)
  | cons y z ih =>
    intro a ha hz h
    obtain ⟨z1, z2⟩ := List.pairwise_cons.1 hz
    cases a with
    | nil => exact List.nil_sublist _
    | cons x a =>
      obtain ⟨a1, a2⟩ := List.pairwise_cons.1 ha
      rcases List.mem_cons.1 (h x List.mem_cons_self) with rfl | hx
      · refine List.Sublist.cons_cons x (ih a a2 z2 (fun t ht => ?_))
        have h1 := a1 t ht
        rcases List.mem_cons.1 (h t (List.mem_cons_of_mem _ ht)) with rfl | h2
        · omega
        · exact h2
      · refine List.Sublist.cons y (ih (x :: a) ha z2 (fun t ht => ?_))
        have hyx := z1 x hx
        rcases List.mem_cons.1 (h t ht) with rfl | h2
        · rcases List.mem_cons.1 ht with rfl | h3
          · exact hx
          · have := a1 t h3
            omega
        · exact h2
theorem containsL_l0 (xs : List Int) (x : Int) (hn : xs.length ≤ 9223372036854775807) : ∀ (zs : List Int) (i : Nat), xs.drop i = zs → Ev (fun k => laws_contains.l0 k xs x (i : Int)) (decide (x ∈ zs)) := by
  intro zs
  induction zs with
  | nil =>
    intro i h
    have := at_end h
    refine Ev.step (fun k => by rw [laws_contains.l0]) ?_
    exact ev_neg (by omega) (ev_eq (Ev.now _) (by simp))
  | cons z zs ih =>
    intro i h
    obtain ⟨hlt, hz, h2, _⟩ := at_drop h
    refine Ev.step (fun k => by rw [laws_contains.l0]) ?_
    rw [wrap_id (by omega) (by omega), rd_get hz]
    refine ev_pos (by omega) (ev_pos (by omega) (ev_ite (fun e => ev_eq (Ev.now _) (by simp [e])) (fun e => ev_eq (ih (i + 1) h2) ?_)))
    have : x ≠ z := fun h => e h.symm
    simp [this]
theorem containsL_ev (xs : List Int) (x : Int) (hn : xs.length ≤ 9223372036854775807) : Ev (fun k => laws_contains.f k xs x) (decide (x ∈ xs)) := by
  unfold laws_contains.f
  exact containsL_l0 xs x hn xs 0 rfl
theorem mem_att {n : Int} {xs : List (List Int)} {q c : Int} (hg : isGraph n xs = true) : q ∈ attackers n xs c ↔ ∃ r ∈ xs, rd r 1 = c ∧ rd r 0 = q := by
  unfold attackers
  rw [if_pos hg, List.mem_map]
  constructor
  · rintro ⟨r, hr, e⟩
    obtain ⟨h1, h2⟩ := List.mem_filter.1 hr
    exact ⟨r, h1, of_decide_eq_true h2, e⟩
  · rintro ⟨r, h1, h2, e⟩
    exact ⟨r, List.mem_filter.2 ⟨h1, decide_eq_true h2⟩, e⟩
theorem mem_hits {n : Int} {xs : List (List Int)} {s : List Int} {c : Int} (hg : isGraph n xs = true) : c ∈ hits n xs s ↔ ∃ q ∈ s, q ∈ attackers n xs c := by
  unfold hits
  rw [if_pos hg, fromN_mem]
  unfold hitB
  rw [List.any_eq_true]
  have hn := isGraph_n hg
  constructor
  · rintro ⟨_, r, hr, h⟩
    obtain ⟨h1, h2⟩ := of_decide_eq_true h
    exact ⟨_, h2, (mem_att hg).2 ⟨r, hr, h1, rfl⟩⟩
  · rintro ⟨q, hq, h⟩
    obtain ⟨r, hr, h1, h2⟩ := (mem_att hg).1 h
    have := isGraph_row hg hr
    refine ⟨by omega, r, hr, decide_eq_true ⟨h1, h2 ▸ hq⟩⟩
theorem up_of : ∀ l : List Int, l.Pairwise (· < ·) → upward l = true
  | [], _ => rfl
  | [_], _ => rfl
  | a :: b :: r, h => by
    obtain ⟨h1, h2⟩ := List.pairwise_cons.1 h
    unfold upward
    rw [up_of (b :: r) h2, Bool.and_true]
    exact decide_eq_true (h1 b (by simp))
theorem set_of {n : Int} {xs : List (List Int)} (hg : isGraph n xs = true) (p : Int → Bool) : isSet n xs (fromN p 0 n.toNat) = true := by
  unfold isSet
  have hn := isGraph_n hg
  rw [hg, up_of _ (fromN_asc _ _ _), Bool.and_true, Bool.true_and, List.all_eq_true]
  intro y hy
  have h1 := ((fromN_mem p y _ _).1 hy).1
  unfold inR
  rw [wrap_id (by omega) (by omega)]
  exact decide_eq_true (by omega)
theorem mem_defended {n : Int} {xs : List (List Int)} {s : List Int} (hs : isSet n xs s = true) (c : Int) : c ∈ defended n xs s ↔ (0 ≤ c ∧ c < n) ∧ ∀ o ∈ attackers n xs c, ∃ q ∈ s, q ∈ attackers n xs o := by
  have hg : isGraph n xs = true := by unfold isSet at hs; exact (Bool.and_eq_true_iff.1 hs).1
  have hn := isGraph_n hg
  unfold defended
  rw [if_pos hs, fromN_mem]
  unfold defends
  rw [hs, Bool.true_and, Bool.and_eq_true, List.all_eq_true]
  unfold inR
  rw [decide_eq_true_eq, wrap_id (by omega) (by omega)]
  constructor
  · rintro ⟨h1, _, h2⟩
    exact ⟨by omega, fun o ho => (mem_hits hg).1 (of_decide_eq_true (h2 o ho))⟩
  · rintro ⟨h1, h2⟩
    exact ⟨by omega, by omega, fun o ho => decide_eq_true ((mem_hits hg).2 (h2 o ho))⟩
/-- The rounds: what none attacks, what that defends, and so on. -/
def iterD (n : Int) (xs : List (List Int)) : Nat → List Int
  | 0 => []
  | r + 1 => defended n xs (iterD n xs r)
theorem iterD_set {n : Int} {xs : List (List Int)} (hg : isGraph n xs = true) : ∀ r, isSet n xs (iterD n xs r) = true
  | 0 => by unfold isSet iterD; rw [hg]; rfl
  | r + 1 => by
    unfold iterD defended
    rw [if_pos (iterD_set hg r)]
    exact set_of hg _
theorem iterD_mem {n : Int} {xs : List (List Int)} (hg : isGraph n xs = true) (r : Nat) (c : Int) : c ∈ iterD n xs (r + 1) ↔ (0 ≤ c ∧ c < n) ∧ ∀ o ∈ attackers n xs c, ∃ q ∈ iterD n xs r, q ∈ attackers n xs o := mem_defended (iterD_set hg r) c
theorem iterD_step {n : Int} {xs : List (List Int)} (hg : isGraph n xs = true) : ∀ (r : Nat) (c : Int), c ∈ iterD n xs r → c ∈ iterD n xs (r + 1)
  | 0, c, h => absurd h (by simp [iterD])
  | r + 1, c, h => by
    obtain ⟨h1, h2⟩ := (iterD_mem hg r c).1 h
    refine (iterD_mem hg (r + 1) c).2 ⟨h1, fun o ho => ?_⟩
    obtain ⟨q, hq, h3⟩ := h2 o ho
    exact ⟨q, iterD_step hg r q hq, h3⟩
theorem iterD_le {n : Int} {xs : List (List Int)} (hg : isGraph n xs = true) {r s : Nat} (h : r ≤ s) {c : Int} (hc : c ∈ iterD n xs r) : c ∈ iterD n xs s := by
  induction h with
  | refl => exact hc
  | step _ ih => exact iterD_step hg _ c ih
theorem iterD_asc {n : Int} {xs : List (List Int)} : ∀ r, (iterD n xs r).Pairwise (· < ·)
  | 0 => List.Pairwise.nil
  | r + 1 => by
    unfold iterD defended
    split
    · exact fromN_asc _ _ _
    · exact List.Pairwise.nil
theorem iterD_len {n : Int} {xs : List (List Int)} : ∀ r, (iterD n xs r).length ≤ 10
  | 0 => by simp [iterD]
  | r + 1 => defended_len n xs _
theorem iterD_grow {n : Int} {xs : List (List Int)} (hg : isGraph n xs = true) (r : Nat) (h : iterD n xs (r + 1) ≠ iterD n xs r) : (iterD n xs r).length + 1 ≤ (iterD n xs (r + 1)).length := by
  have hs := asc_sublist _ _ (iterD_asc r) (iterD_asc (r + 1)) (iterD_step hg r)
  rcases Nat.lt_or_ge (iterD n xs r).length (iterD n xs (r + 1)).length with h1 | h1
  · exact h1
  · exact absurd (hs.eq_of_length_le h1).symm h
theorem iterD_stop {n : Int} {xs : List (List Int)} {R : Nat} (h : iterD n xs (R + 1) = iterD n xs R) : ∀ t, iterD n xs (R + t) = iterD n xs R
  | 0 => rfl
  | t + 1 => by
    have e : iterD n xs (R + (t + 1)) = defended n xs (iterD n xs (R + t)) := rfl
    rw [e, iterD_stop h t]
    exact h
theorem iterD_top {n : Int} {xs : List (List Int)} (hg : isGraph n xs = true) {R : Nat} (h : iterD n xs (R + 1) = iterD n xs R) (d : Nat) {c : Int} (hc : c ∈ iterD n xs d) : c ∈ iterD n xs R := by
  rcases Nat.le_total d R with h1 | h1
  · exact iterD_le hg h1 hc
  · obtain ⟨t, rfl⟩ : ∃ t, d = R + t := ⟨d - R, by omega⟩
    rw [iterD_stop h t] at hc
    exact hc
/-- The least of those that hold. -/
theorem least_of {p : Nat → Prop} : ∀ r : Nat, p r → ∃ t, t ≤ r ∧ p t ∧ ∀ s, s < t → ¬ p s := by
  intro r
  induction r using Nat.strongRecOn with
  | ind r ih =>
    intro h
    by_cases e : ∃ s, s < r ∧ p s
    · obtain ⟨s, h1, h2⟩ := e
      obtain ⟨t, h3, h4⟩ := ih s h1 h2
      exact ⟨t, by omega, h4⟩
    · exact ⟨r, Nat.le_refl _, h, fun s h1 h2 => e ⟨s, h1, h2⟩⟩
theorem win_sound {n : Int} {xs : List (List Int)} (hg : isGraph n xs = true) : ∀ (d μ : Nat) (c : Int), (0 ≤ c ∧ c < n) → winM n xs d μ c = true → c ∈ iterD n xs d := by
  intro d
  induction d with
  | zero => intro μ c hc h; exact absurd h (by simp [winM])
  | succ d ih =>
    intro μ c hc h
    unfold winM at h
    rw [List.all_eq_true] at h
    refine (iterD_mem hg d c).2 ⟨hc, fun o ho => ?_⟩
    obtain ⟨q, hq, h2⟩ := List.any_eq_true.1 (h o ho)
    have hb := attackers_bd hq
    exact ⟨q, ih _ q (by omega) (Bool.and_eq_true_iff.1 h2).2, hq⟩
theorem win_whole {n : Int} {xs : List (List Int)} (hg : isGraph n xs = true) : ∀ (r : Nat) (c : Int) (μ d : Nat), c ∈ iterD n xs r → (∀ s, s < r → ∀ q ∈ iterD n xs s, ¬ μ.testBit q.toNat = true) → μ < 1024 → 1024 ≤ d + μ → winM n xs d μ c = true := by
  intro r
  induction r using Nat.strongRecOn with
  | ind r ih =>
    intro c μ d hc hu hμ hd
    cases r with
    | zero => exact absurd hc (by simp [iterD])
    | succ s =>
      obtain ⟨d, rfl⟩ : ∃ e, d = e + 1 := ⟨d - 1, by omega⟩
      obtain ⟨h1, h2⟩ := (iterD_mem hg s c).1 hc
      unfold winM
      rw [List.all_eq_true]
      intro o ho
      obtain ⟨t, ht, ⟨q, hq, hqo⟩, hmin⟩ := least_of (p := fun t => ∃ q ∈ iterD n xs t, q ∈ attackers n xs o) s (h2 o ho)
      have hb := attackers_bd hqo
      have hno := hu t (by omega) q hq
      refine List.any_eq_true.2 ⟨q, hqo, ?_⟩
      rw [Bool.and_eq_true]
      refine ⟨by simpa using hno, ih t (by omega) q _ d hq (fun u hut p hp => ?_) (w_or μ _ hμ (w_pow q ⟨hb.1, by omega⟩)).2 (by have := w_up μ q.toNat hno; omega)⟩
      have hpq : p ≠ q := by
        rintro rfl
        exact hmin u hut ⟨p, hp, hqo⟩
      have hp0 : 0 ≤ p := by
        cases u with
        | zero => exact absurd hp (by simp [iterD])
        | succ u => exact ((iterD_mem hg u p).1 hp).1.1
      rw [Nat.testBit_or, Nat.testBit_two_pow]
      have h5 := hu u (by omega) p hp
      simp only [Bool.or_eq_true, decide_eq_true_eq, not_or]
      exact ⟨h5, by omega⟩
theorem can_grounded {n : Int} {xs : List (List Int)} (hg : isGraph n xs = true) {R : Nat} (hR : iterD n xs (R + 1) = iterD n xs R) (c : Int) : canV n xs c = decide (c ∈ iterD n xs R) := by
  have hn := isGraph_n hg
  unfold canV
  rw [hg, Bool.true_and]
  by_cases hc : 0 ≤ c ∧ c ≤ n - 1
  · rw [decide_eq_true hc, Bool.true_and]
    cases h : winM n xs 1024 (2 ^ c.toNat) c with
    | true => exact (decide_eq_true (iterD_top hg hR _ (win_sound hg _ _ c (by omega) h))).symm
    | false =>
      refine (decide_eq_false (fun hm => ?_)).symm
      obtain ⟨t, _, h1, h2⟩ := least_of (p := fun t => c ∈ iterD n xs t) R hm
      have := win_whole hg t c (2 ^ c.toNat) 1024 h1 (fun s hs q hq => ?_) (w_pow c (by omega)) (Nat.le_add_right _ _)
      · rw [h] at this
        exact absurd this (by decide)
      · have hq0 : 0 ≤ q := by
          cases s with
          | zero => exact absurd hq (by simp [iterD])
          | succ u => exact ((iterD_mem hg u q).1 hq).1.1
        have hqc : q ≠ c := by rintro rfl; exact h2 s hs hq
        rw [Nat.testBit_two_pow, decide_eq_true_eq]
        omega
  · rw [decide_eq_false hc, Bool.false_and]
    refine (decide_eq_false (fun hm => ?_)).symm
    have := (((iterD_set hg R)))
    unfold isSet at this
    have h1 := (Bool.and_eq_true_iff.1 (Bool.and_eq_true_iff.1 this).2).1
    have h2 := List.all_eq_true.1 h1 c hm
    unfold inR at h2
    rw [wrap_id (by omega) (by omega)] at h2
    exact hc (of_decide_eq_true h2)
theorem rdL1_last (xs : List (List Int)) (f : Nat → List Int) (r : Nat) : rd_L1 ((List.range (r + 1)).map f) (r : Int) = f r := by
  exact getD_at (by simp)
theorem rounds_l0 (n : Int) (xs : List (List Int)) (hg : isGraph n xs = true) (hn : xs.length ≤ 1048576) : ∀ (d r : Nat), 11 ≤ d + (iterD n xs r).length → r + d ≤ 20 → ∃ R, iterD n xs (R + 1) = iterD n xs R ∧ R ≤ 20 ∧ Ev (fun k => impl_rounds.l0 k ((List.range (r + 1)).map (iterD n xs)) n xs) ((List.range (R + 1)).map (iterD n xs)) := by
  intro d
  induction d with
  | zero => intro r h; have := iterD_len (n := n) (xs := xs) r; omega
  | succ d ih =>
    intro r h h2
    have hl : ((List.range (r + 1)).map (iterD n xs)).length = r + 1 := by simp
    have hlen := iterD_len (n := n) (xs := xs) r
    have hlen2 := iterD_len (n := n) (xs := xs) (r + 1)
    have hw : wrap64 ((((List.range (r + 1)).map (iterD n xs)).length : Int) - 1) = (r : Int) := by rw [hl, wrap_id (by omega) (by omega)]; omega
    have key : ∀ R', Ev (fun k => (slices_Equal_int_int.f k (iterD n xs (r + 1)) (iterD n xs r)).bind fun t207 => (if t207 = true then (some ((List.range (r + 1)).map (iterD n xs))) else (if ((List.range (r + 1)).map (iterD n xs)).length < 5864062014805 then (impl_rounds.l0 k (((List.range (r + 1)).map (iterD n xs)) ++ [iterD n xs (r + 1)]) n xs) else none))) R' → Ev (fun k => impl_rounds.l0 k ((List.range (r + 1)).map (iterD n xs)) n xs) R' := by
      intro R' hR'
      refine Ev.step (fun k => by rw [impl_rounds.l0]) ?_
      rw [hw]
      refine ev_pos (by omega) (ev_pos (by rw [hl]; omega) ?_)
      rw [rdL1_last xs]
      exact Ev.bind (defended_impl n xs _ hn (by omega)) hR'
    by_cases e : iterD n xs (r + 1) = iterD n xs r
    · exact ⟨r, e, by omega, key _ (Ev.bind (equalI_ev _ _ (by omega)) (ev_pos (decide_eq_true e) (Ev.now _)))⟩
    · have hgr := iterD_grow hg r e
      obtain ⟨R, h3, h4, h5⟩ := ih (r + 1) (by omega) (by omega)
      refine ⟨R, h3, h4, key _ (Ev.bind (equalI_ev _ _ (by omega)) (ev_neg (by simpa using e) (ev_pos (by rw [hl]; omega) ?_)))⟩
      rw [List.range_succ (n := r + 1), List.map_append] at h5
      exact h5
theorem grounded_impl (n : Int) (xs : List (List Int)) (hn : xs.length ≤ 1048576) : ∃ G, Ev (fun k => impl_Grounded.f k n xs) G ∧ G.length ≤ 10 ∧ (isGraph n xs = true → ∃ R, iterD n xs (R + 1) = iterD n xs R ∧ G = iterD n xs R) ∧ (isGraph n xs = false → G = []) := by
  cases hg : isGraph n xs with
  | true =>
    obtain ⟨R, h1, h2, h3⟩ := rounds_l0 n xs hg hn 11 0 (by omega) (by omega)
    refine ⟨iterD n xs R, ?_, iterD_len R, fun _ => ⟨R, h1, rfl⟩, fun h => absurd h (by decide)⟩
    unfold impl_Grounded.f
    have hl : ((List.range (R + 1)).map (iterD n xs)).length = R + 1 := by simp
    have hw : wrap64 ((((List.range (R + 1)).map (iterD n xs)).length : Int) - 1) = (R : Int) := by rw [hl, wrap_id (by omega) (by omega)]; omega
    have h4 : Ev (fun k => impl_rounds.f k n xs) ((List.range (R + 1)).map (iterD n xs)) := by
      unfold impl_rounds.f
      refine ev_bind0 rfl (Ev.bind (isGraph_impl n xs hn) (ev_pos hg ?_))
      exact h3
    refine Ev.bind h4 ?_
    rw [hw]
    refine ev_pos (by omega) (ev_pos (by rw [hl]; omega) ?_)
    rw [rdL1_last xs]
    exact Ev.now _
  | false =>
    refine ⟨[], ?_, by simp, fun h => absurd h (by decide), fun _ => rfl⟩
    unfold impl_Grounded.f
    have h4 : Ev (fun k => impl_rounds.f k n xs) [[]] := by
      unfold impl_rounds.f
      exact ev_bind0 rfl (Ev.bind (isGraph_impl n xs hn) (ev_neg (by rw [hg]; decide) (Ev.now _)))
    refine Ev.bind h4 ?_
    rw [show wrap64 ((([[]] : List (List Int)).length : Int) - 1) = 0 from wrap_id (x := 0) (by omega) (by omega)]
    exact ev_pos (by decide) (ev_pos (by decide) (Ev.now _))
theorem addAttack_any (n x y : Int) (S : List (List Int)) (hg : isGraph n S = true) (hn : S.length < 1048576) : ∃ T b, Ev (fun k => spec_AddAttack.f k n S x y) (n, T, b) ∧ isGraph n T = true ∧ T.length ≤ S.length + 1 := by
  have hl : (insR [x, y] S).length = S.length + 1 := by rw [(insR_perm [x, y] S).length_eq, List.length_cons]
  cases h : isGraph n (insR [x, y] S) with
  | true =>
    refine ⟨insR [x, y] S, true, ?_, h, by omega⟩
    unfold spec_AddAttack.f
    refine addS_l0 n x y S hg (by omega) _ ?_ S 0 [] rfl (Nat.le_refl _) rfl
    exact Ev.step (fun k => by rw [spec_AddAttack.j2]) (Ev.bind (isGraph_spec n S (by omega)) (ev_pos hg (Ev.bind (isGraph_spec n (insR [x, y] S) (by omega)) (ev_pos h (Ev.now _)))))
  | false =>
    refine ⟨S, false, ?_, hg, by omega⟩
    unfold spec_AddAttack.f
    refine addS_l0 n x y S hg (by omega) _ ?_ S 0 [] rfl (Nat.le_refl _) rfl
    refine Ev.step (fun k => by rw [spec_AddAttack.j2]) (Ev.bind (isGraph_spec n S (by omega)) (ev_pos hg (Ev.bind (isGraph_spec n (insR [x, y] S) (by omega)) (ev_neg (c := isGraph n (insR [x, y] S) = true) (by rw [h]; decide) ?_))))
    exact Ev.bind (copyG_ev n S (by omega) (fun y hy => by have := (isGraph_row hg hy).1; omega)) (Ev.now _)
theorem l8Small_l0 (b : List Int) (hb : b.length ≤ 1048576) (n : Int) (h1 : 1 ≤ n) : ∀ (d : Nat) (S : List (List Int)) (i h : Int), isGraph n S = true → Cur b i → S.length + d ≤ 1000 → ∃ m T i2 h2, Ev (fun k => spec_l8Small.l0 k (d : Int) b i h n S) (m, T, i2, h2) ∧ T.length ≤ S.length + d ∧ Cur b i2 := by
  intro d
  induction d with
  | zero =>
    intro S i h hg hc hl
    obtain ⟨r, i2, h2, e, hc2⟩ := l1Once_ok b i h 12 hc hb
    cases r with
    | true => exact ⟨_, _, _, _, Ev.step (fun k => by rw [spec_l8Small.l0]) (ev_neg (by omega) (ev_bind0 e (ev_pos rfl (Ev.now _)))), Nat.le_refl _, hc2⟩
    | false => exact ⟨_, _, _, _, Ev.step (fun k => by rw [spec_l8Small.l0]) (ev_neg (by omega) (ev_bind0 e (ev_neg Bool.false_ne_true (Ev.now _)))), Nat.le_refl _, hc2⟩
  | succ d ih =>
    intro S i h hg hc hl
    obtain ⟨x, i2, h2, e2, _, _, _, hc2⟩ := l1Below_ok b i h n hc hb
    obtain ⟨y, i3, h3, e3, _, _, _, hc3⟩ := l1Below_ok b i2 h2 n hc2 hb
    obtain ⟨T, a, eA, hT, hlT⟩ := addAttack_any n x y S hg (by omega)
    obtain ⟨m, U, i4, h4, e4, hU, hc4⟩ := ih T i3 h3 hT hc3 (by omega)
    refine ⟨m, U, i4, h4, Ev.step (fun k => by rw [spec_l8Small.l0]) (ev_pos (by omega) (ev_bind0 e2 (ev_bind0 e3 (Ev.bind eA ?_)))), by omega, hc4⟩
    rw [wrap_id (by omega) (by omega), show ((d + 1 : Nat) : Int) - 1 = (d : Int) by omega]
    exact e4
theorem l8Small_ok (b : List Int) (hb : b.length ≤ 1048576) (i h : Int) (hc : Cur b i) : ∃ m T i2 h2, Ev (fun k => spec_l8Small.f k b i h) (m, T, i2, h2) ∧ T.length ≤ 8 ∧ Cur b i2 := by
  obtain ⟨x, i2, h2, e2, hx0, hx1, _, hc2⟩ := l1Below_ok b i h 5 hc hb
  obtain ⟨y, i3, h3, e3, hy0, hy1, _, hc3⟩ := l1Below_ok b i2 h2 8 hc2 hb
  have hx := hx1 (by decide)
  have hy := hy1 (by decide)
  have hg : isGraph (1 + x) [] = true := by
    unfold isGraph
    rw [decide_eq_true (by omega)]
    rfl
  obtain ⟨m, T, i4, h4, e4, hT, hc4⟩ := l8Small_l0 b hb (1 + x) (by omega) y.toNat [] i3 h3 hg hc3 (by first | (simp; done) | (simp; omega))
  refine ⟨m, T, i4, h4, ?_, by simp at hT; omega, hc4⟩
  unfold spec_l8Small.f
  refine ev_bind0 e2 (ev_bind0 e3 ?_)
  dsimp only
  rw [wrap_id (x := 1 + x) (by omega) (by omega)]
  rw [show ((y.toNat : Nat) : Int) = y by omega] at e4
  exact e4
theorem drawCanWin_ok (b : List Int) (hb : b.length ≤ 1048576) : ∃ n xs c, Ev (fun k => spec_DrawCanWin.f k b) (n, xs, c) ∧ xs.length ≤ 8 := by
  obtain ⟨h1, e1, hc1⟩ := l1New_ok b hb
  obtain ⟨m, T, i2, h2, e2, hT, hc2⟩ := l8Small_ok b hb 0 h1 hc1
  obtain ⟨c, i3, h3, e3, _⟩ := l1Below_ok b i2 h2 6 hc2 hb
  exact ⟨m, T, c, Ev.bind e1 (Ev.bind e2 (ev_bind0 e3 (Ev.now _))), hT⟩
theorem drawBest_ok (b : List Int) (hb : b.length ≤ 1048576) : ∃ n xs l c, Ev (fun k => spec_DrawBestAnswer.f k b) (n, xs, l, c) ∧ xs.length ≤ 8 ∧ l.length = 2 := by
  obtain ⟨h1, e1, hc1⟩ := l1New_ok b hb
  obtain ⟨m, T, i2, h2, e2, hT, hc2⟩ := l8Small_ok b hb 0 h1 hc1
  obtain ⟨p, i3, h3, e3, _, _, _, hc3⟩ := l1Below_ok b i2 h2 5 hc2 hb
  obtain ⟨q, i4, h4, e4, _, _, _, hc4⟩ := l1Below_ok b i3 h3 5 hc3 hb
  obtain ⟨c, i5, h5, e5, _⟩ := l1Below_ok b i4 h4 6 hc4 hb
  exact ⟨m, T, [p, q], c, Ev.bind (Ev.bind e1 (Ev.bind e2 (ev_bind0 e3 (ev_bind0 e4 (ev_bind0 e5 (Ev.now _)))))) (Ev.now _), hT, rfl⟩
theorem l8Line_l0 (b : List Int) (hb : b.length ≤ 1048576) (n : Int) (xs : List (List Int)) (hn : xs.length ≤ 1048576) : ∀ (d : Nat) (cs : List Int) (i h : Int), Cur b i → 0 < cs.length → cs.length + d ≤ 1000 → ∃ l i2 h2, Ev (fun k => spec_l8Line.l0 k cs (d : Int) b i h n xs) (l, i2, h2) ∧ l.length ≤ cs.length + d := by
  intro d
  induction d with
  | zero =>
    intro cs i h hc h0 hl
    exact ⟨_, _, _, Ev.step (fun k => by rw [spec_l8Line.l0]) (ev_neg (by omega) (Ev.now _)), by omega⟩
  | succ d ih =>
    intro cs i h hc h0 hl
    have hw : wrap64 ((cs.length : Int) - 1) = (cs.length : Int) - 1 := wrap_id (by omega) (by omega)
    have hal := attackers_length n xs (rd cs ((cs.length : Int) - 1))
    have key : ∀ R, Ev (fun k => if ((attackers n xs (rd cs ((cs.length : Int) - 1))).length : Int) = 0 then some (cs, i, h) else ((spec_l1Below.f b i h ((attackers n xs (rd cs ((cs.length : Int) - 1))).length : Int)).bind fun bt440 => (if 0 ≤ bt440.1 then (if bt440.1 < ((attackers n xs (rd cs ((cs.length : Int) - 1))).length : Int) then (if cs.length < 17592186044416 then (spec_l8Line.l0 k (cs ++ [rd (attackers n xs (rd cs ((cs.length : Int) - 1))) bt440.1]) (wrap64 (((d + 1 : Nat) : Int) - 1)) b bt440.2.1 bt440.2.2 n xs) else (none)) else (none)) else (none)))) R → Ev (fun k => spec_l8Line.l0 k cs ((d + 1 : Nat) : Int) b i h n xs) R := by
      intro R hR
      refine Ev.step (fun k => by rw [spec_l8Line.l0]) (ev_pos (by omega) ?_)
      rw [hw]
      exact ev_pos (by omega) (ev_pos (by omega) (Ev.bind (attackers_spec n xs _ hn) hR))
    by_cases hA : ((attackers n xs (rd cs ((cs.length : Int) - 1))).length : Int) = 0
    · exact ⟨cs, i, h, key _ (ev_pos hA (Ev.now _)), by omega⟩
    · obtain ⟨q, i2, h2, e2, hq0, hq1, _, hc2⟩ := l1Below_ok b i h ((attackers n xs (rd cs ((cs.length : Int) - 1))).length : Int) hc hb
      have hq := hq1 (by omega)
      obtain ⟨l, i3, h3, e3, hl3⟩ := ih (cs ++ [rd (attackers n xs (rd cs ((cs.length : Int) - 1))) q]) i2 h2 hc2 (by rw [List.length_append, List.length_singleton]; omega) (by rw [List.length_append, List.length_singleton]; omega)
      rw [List.length_append, List.length_singleton] at hl3
      refine ⟨l, i3, h3, key _ (ev_neg hA (ev_bind0 e2 (ev_pos hq0 (ev_pos hq (ev_pos (by omega) ?_))))), by omega⟩
      rw [wrap_id (by omega) (by omega), show ((d + 1 : Nat) : Int) - 1 = (d : Int) by omega]
      exact e3
theorem drawLine_ok (b : List Int) (hb : b.length ≤ 1048576) : ∃ n xs l, Ev (fun k => spec_DrawWinnerOf.f k b) (n, xs, l) ∧ xs.length ≤ 8 ∧ l.length ≤ 1000 := by
  obtain ⟨h1, e1, hc1⟩ := l1New_ok b hb
  obtain ⟨m, T, i2, h2, e2, hT, hc2⟩ := l8Small_ok b hb 0 h1 hc1
  obtain ⟨p, i3, h3, e3, _, _, _, hc3⟩ := l1Below_ok b i2 h2 6 hc2 hb
  obtain ⟨q, i4, h4, e4, hq0, hq1, _, hc4⟩ := l1Below_ok b i3 h3 5 hc3 hb
  have hq := hq1 (by decide)
  obtain ⟨l, i5, h5, e5, hl⟩ := l8Line_l0 b hb m T (by omega) q.toNat [p] i4 h4 hc4 (by simp) (by first | (simp; done) | (simp; omega))
  rw [show ((q.toNat : Nat) : Int) = q by omega] at e5
  have eL : Ev (fun k => spec_l8Line.f k b i2 h2 m T) (l, i5, h5) := ev_bind0 e3 (ev_bind0 e4 e5)
  refine ⟨m, T, l, Ev.bind (Ev.bind e1 (Ev.bind e2 (Ev.bind eL (Ev.now _)))) (Ev.now _), hT, ?_⟩
  simp at hl
  omega
theorem nd_len : ∀ (n : Nat) (l : List Int), l.Nodup → (∀ x ∈ l, 0 ≤ x ∧ x < (n : Int)) → l.length ≤ n := by
  intro n
  induction n with
  | zero =>
    intro l _ h
    cases l with
    | nil => exact Nat.le_refl _
    | cons a l => have := h a (by simp); omega
  | succ n ih =>
    intro l hd h
    have h1 := ih (l.erase (n : Int)) (hd.erase _) (fun x hx => by
      have h2 := (List.Nodup.mem_erase_iff hd).1 hx
      have := h x h2.2
      have := h2.1
      omega)
    rw [List.length_erase] at h1
    split at h1 <;> omega
theorem line_len {n : Int} {xs : List (List Int)} {cs : List Int} (h : LineP n xs cs) : (cs.length : Int) ≤ 2 * n := by
  obtain ⟨hg, h0, hl⟩ := h
  have hn := isGraph_n hg
  have hel := evens_length cs
  have hget : ∀ (i : Nat) (hi : i < (evens cs).length), (evens cs)[i] = rd cs ((2 * i : Nat) : Int) := fun i hi => by rw [← rd_nat (evens cs) i hi, rd_evens]
  have h1 : (evens cs).length ≤ n.toNat := by
    refine nd_len n.toNat _ ?_ (fun x hx => ?_)
    · refine List.pairwise_iff_getElem.2 (fun i j hi hj hij => ?_)
      rw [hget i hi, hget j hj]
      exact (hl (2 * j) (by omega)).2.2 (by omega) (2 * i) (by omega) (by omega)
    · obtain ⟨i, hi, e⟩ := List.getElem_of_mem hx
      rw [← e, hget i hi]
      have h2 := (hl (2 * i) (by omega)).1
      rw [wrap_id (x := n - 1) (by omega) (by omega)] at h2
      omega
  omega
theorem txt_nil : (⟨#[]⟩ : ByteArray).toList = [] := by
  unfold ByteArray.toList
  repeat (unfold ByteArray.toList.loop; simp [ByteArray.size, ByteArray.get!])
theorem txt_first : (⟨#[102, 105, 114, 115, 116]⟩ : ByteArray).toList = [102, 105, 114, 115, 116] := by
  unfold ByteArray.toList
  repeat (unfold ByteArray.toList.loop; simp [ByteArray.size, ByteArray.get!])
theorem txt_second : (⟨#[115, 101, 99, 111, 110, 100]⟩ : ByteArray).toList = [115, 101, 99, 111, 110, 100] := by
  unfold ByteArray.toList
  repeat (unfold ByteArray.toList.loop; simp [ByteArray.size, ByteArray.get!])
theorem txt_none : (⟨#[110, 111, 110, 101]⟩ : ByteArray).toList = [110, 111, 110, 101] := by
  unfold ByteArray.toList
  repeat (unfold ByteArray.toList.loop; simp [ByteArray.size, ByteArray.get!])
theorem winner_val (n : Int) (xs : List (List Int)) (cs : List Int) (hn : xs.length ≤ 1048576) (hc : cs.length ≤ 1048576) : ∃ (w : List UInt8) (v : ByteArray) (b : Bool), v.toList = w ∧ Ev (fun k => impl_WinnerOf.f k n xs cs) v ∧ Ev (fun k => impl_IsLine.f k n xs cs) b ∧ (w != []) = b ∧ (b = true → LineP n xs cs) ∧ (w = [102, 105, 114, 115, 116] → 0 < cs.length ∧ (cs.length : Int) % 2 = 1 ∧ ((attackers n xs (rd cs ((cs.length : Int) - 1))).length : Int) = 0) := by
  obtain ⟨b, hb2, hbP⟩ := isLine_impl n xs cs hn hc
  have hel : (evens cs).length ≤ 9223372036854775807 := by rw [evens_length]; omega
  cases b with
  | false => exact ⟨_, _, false, txt_nil, Ev.bind hb2 (ev_neg (by decide) (Ev.now _)), hb2, rfl, fun h => absurd h (by decide), fun h => absurd h (by decide)⟩
  | true =>
    have hl := (hbP.1 rfl).2.1
    have hw : wrap64 ((cs.length : Int) - 1) = (cs.length : Int) - 1 := wrap_id (by omega) (by omega)
    have go1 : ∀ v, Ev (fun k => if ((cs.length : Int) % 2) = 1 then ((impl_AttackersOf.f k n xs (rd cs ((cs.length : Int) - 1))).bind fun t503 => (impl_WinnerOf.j0 k cs (rd cs ((cs.length : Int) - 1)) ((t503.length : Int) == 0) n xs)) else (impl_WinnerOf.j0 k cs (rd cs ((cs.length : Int) - 1)) false n xs)) v → Ev (fun k => impl_WinnerOf.f k n xs cs) v := by
      intro v hv
      unfold impl_WinnerOf.f
      rw [hw]
      exact Ev.bind hb2 (ev_pos rfl (ev_pos (by omega) (ev_pos (by omega) hv)))
    by_cases hodd : (cs.length : Int) % 2 = 1
    · by_cases ha : ((attackers n xs (rd cs ((cs.length : Int) - 1))).length : Int) = 0
      · exact ⟨_, _, true, txt_first, go1 _ (ev_pos hodd (Ev.bind (attackers_impl n xs _ hn) (Ev.step (fun k => by rw [impl_WinnerOf.j0]) (ev_pos (by simpa using ha) (Ev.now _))))), hb2, rfl, fun _ => hbP.1 rfl, fun _ => ⟨hl, hodd, ha⟩⟩
      · exact ⟨_, _, true, txt_none, go1 _ (ev_pos hodd (Ev.bind (attackers_impl n xs _ hn) (Ev.step (fun k => by rw [impl_WinnerOf.j0]) (ev_neg (by simpa using ha) (ev_neg (by omega) (Ev.now _)))))), hb2, rfl, fun _ => hbP.1 rfl, fun h => absurd h (by decide)⟩
    · by_cases ha : ((answers n xs (evens cs) (rd cs ((cs.length : Int) - 1))).length : Int) = 0
      · exact ⟨_, _, true, txt_second, go1 _ (ev_neg hodd (Ev.step (fun k => by rw [impl_WinnerOf.j0]) (ev_neg (by decide) (ev_pos (by omega) (Ev.bind (evens_ev cs hc) (Ev.bind (answers_impl n xs _ _ hn hel) (ev_pos ha (Ev.now _)))))))), hb2, rfl, fun _ => hbP.1 rfl, fun h => absurd h (by decide)⟩
      · exact ⟨_, _, true, txt_none, go1 _ (ev_neg hodd (Ev.step (fun k => by rw [impl_WinnerOf.j0]) (ev_neg (by decide) (ev_pos (by omega) (Ev.bind (evens_ev cs hc) (Ev.bind (answers_impl n xs _ _ hn hel) (ev_neg ha (Ev.now _)))))))), hb2, rfl, fun _ => hbP.1 rfl, fun h => absurd h (by decide)⟩
theorem FnGames_last (l0 : List Int) (hb : l0.length ≤ 1048576) : Ev (fun k => laws_FnGames.j0 k l0 false) true := by
  obtain ⟨n, xs, cs, eD, hx, hc⟩ := drawLine_ok l0 hb
  obtain ⟨w, v, b, ew, eW, eL, hwb, hP, hF⟩ := winner_val n xs cs (by omega) (by omega)
  refine Ev.step (fun k => by rw [laws_FnGames.j0]) (ev_neg (by decide) (Ev.bind eD ?_))
  dsimp only
  refine Ev.bind eW (Ev.bind eL ?_)
  rw [ew, hwb]
  refine ev_neg (by simp) (Ev.bind eL ?_)
  have fin : Ev (fun k => (if w = ([102, 105, 114, 115, 116] : List UInt8) then (if ((cs.length : Int) % 2) = 1 then (if 0 ≤ (wrap64 ((cs.length : Int) - 1)) then (if (wrap64 ((cs.length : Int) - 1)) < (cs.length : Int) then ((impl_AttackersOf.f k n xs (rd cs (wrap64 ((cs.length : Int) - 1)))).bind fun t553 => (some ((t553.length : Int) == 0))) else (none)) else (none)) else (some false)) else (some true) : Option Bool)) true := by
    refine ev_ite (fun hw => ?_) (fun _ => Ev.now _)
    obtain ⟨h0, h1, h2⟩ := hF hw
    rw [wrap_id (x := (cs.length : Int) - 1) (by omega) (by omega)]
    refine ev_pos h1 (ev_pos (by omega) (ev_pos (by omega) (Ev.bind (attackers_impl n xs _ (by omega)) (ev_eq (Ev.now _) ?_))))
    rw [h2]
    rfl
  cases b with
  | false => exact ev_neg (by decide) fin
  | true =>
    have hlen := line_len (hP rfl)
    have hg := (hP rfl).1
    have hn := isGraph_n hg
    have eG : Ev (fun k => impl_LongestGame.f k n xs) (2 * n) := by
      unfold impl_LongestGame.f
      refine Ev.bind (isGraph_impl n xs (by omega)) (ev_pos hg (ev_eq (Ev.now _) ?_))
      exact wrap_id (by omega) (by omega)
    exact ev_pos rfl (Ev.bind eG (ev_neg (by omega) fin))
theorem FnGames (l0 : List Int) (g0 : l0.length ≤ 9223372036854775807 ∧ ∀ y ∈ l0, (Lit.int .u8 y).wf = true) : ∃ k, laws_FnGames.f k l0 = some true := by
  refine Ev.rounds (g := fun k => laws_FnGames.f k l0) ?_
  unfold laws_FnGames.f
  by_cases hbig : (l0.length : Int) > 1048576
  · exact ev_bind0 (big_eq l0) (ev_pos (decide_eq_true hbig) (Ev.now _))
  have hb : l0.length ≤ 1048576 := by omega
  refine ev_bind0 (big_eq l0) (ev_neg (by simpa using hbig) ?_)
  obtain ⟨n, xs, c, e1, hx⟩ := drawCanWin_ok l0 hb
  obtain ⟨G, eG, hGl, hG1, hG2⟩ := grounded_impl n xs (by omega)
  have hcan : canV n xs c = decide (c ∈ G) := by
    cases hg : isGraph n xs with
    | true =>
      obtain ⟨R, hR, rfl⟩ := hG1 hg
      exact can_grounded hg hR c
    | false =>
      rw [hG2 hg]
      unfold canV
      rw [hg]
      simp
  refine Ev.bind e1 ?_
  dsimp only
  refine Ev.bind (can_impl n xs c (by omega)) (Ev.bind eG (Ev.bind (containsL_ev G c (by omega)) (ev_neg (by rw [hcan]; simp) ?_)))
  obtain ⟨n2, x2, l, c2, e2, hx2, hl⟩ := drawBest_ok l0 hb
  refine Ev.bind e2 ?_
  dsimp only
  obtain ⟨ν, _, _, h3⟩ := best_impl n2 x2 (by omega) l (by omega) c2
  refine Ev.bind h3 (ev_ite (fun hB => ?_) (fun _ => FnGames_last l0 hb))
  refine Ev.bind (answers_impl n2 x2 l c2 (by omega) (by omega)) (Ev.bind (containsL_ev _ _ (by have := List.length_filter_le (fun x => !decide (x ∈ l)) (attackers n2 x2 c2); have := attackers_length n2 x2 c2; unfold answers; omega)) ?_)
  have hm : ((answers n2 x2 l c2).find? fun q => winM n2 x2 1024 (ν ||| 2 ^ q.toNat) q).getD (-1) ∈ answers n2 x2 l c2 := by
    cases hf : (answers n2 x2 l c2).find? fun q => winM n2 x2 1024 (ν ||| 2 ^ q.toNat) q with
    | none => rw [hf] at hB; exact absurd hB (by decide)
    | some q => exact List.mem_of_find?_eq_some hf
  rw [decide_eq_true hm]
  exact FnGames_last l0 hb

end Go.Proofs.Ytdlobolnajcfnaa.Pure
