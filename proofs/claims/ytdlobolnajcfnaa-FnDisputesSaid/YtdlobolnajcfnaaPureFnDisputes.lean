/- The plain statement of the law FnDisputes, for all numbers and lists. -/
import Derived.Test.YtdlobolnajcfnaaPFnDisputesx0
import Derived.Test.YtdlobolnajcfnaaPFnDisputesx1
import Derived.Test.YtdlobolnajcfnaaPFnDisputesx2
import Derived.Test.YtdlobolnajcfnaaPFnDisputesx3
import Derived.Test.YtdlobolnajcfnaaPFnDisputesx4
import Derived.Test.YtdlobolnajcfnaaPFnDisputesx5
import Derived.Test.YtdlobolnajcfnaaPFnDisputesx6
import Derived.Test.YtdlobolnajcfnaaPFnDisputesx7
import Derived.Test.YtdlobolnajcfnaaPFnDisputesx8
import Derived.Test.YtdlobolnajcfnaaPFnDisputesx9
import Derived.Test.YtdlobolnajcfnaaPFnDisputesx10
import Derived.Test.YtdlobolnajcfnaaPFnDisputesx11
import Derived.Test.YtdlobolnajcfnaaPFnDisputesx12
import Derived.Test.YtdlobolnajcfnaaPFnDisputesx13
import Derived.Test.YtdlobolnajcfnaaPFnDisputesx14
import Derived.Test.YtdlobolnajcfnaaPFnDisputesx15
import Derived.Test.YtdlobolnajcfnaaPFnDisputesx16
import Derived.Test.YtdlobolnajcfnaaPFnDisputesx17
import Derived.Test.YtdlobolnajcfnaaPFnDisputesx18
import Derived.Test.YtdlobolnajcfnaaPFnDisputesx19
import Derived.Test.YtdlobolnajcfnaaPFnDisputesx20
import Derived.Test.YtdlobolnajcfnaaBase
set_option linter.unusedVariables false
set_option linter.unusedSimpArgs false
namespace Go.Proofs.Ytdlobolnajcfnaa.Pure
open Go.RowKit Go.Proofs.Ytdlobolnajcfnaa.PFnDisputes Go.Proofs.YtdlobolnajcfnaaW.PrintWords Go.Proofs.YtdlobolnajcfnaaW.PrintLast Go.Proofs.YtdlobolnajcfnaaW.PrintMore Go.Proofs.Ytdlobolnajcfnaa.Base
theorem indexInt_l0 (xs : List Int) (x : Int) (hn : xs.length ≤ 9223372036854775807) : ∀ (zs : List Int) (i : Nat), xs.drop i = zs → ∃ r : Int, Ev (fun k => slices_Index_int_int.l0 k xs x xs.length (i : Int)) r ∧ (0 ≤ r ↔ x ∈ zs) := by
 intro zs
 induction zs with
 | nil =>
  intro i h
  have := at_end h
  exact ⟨-1, Ev.step (fun k => by rw [slices_Index_int_int.l0]) (ev_neg (by omega) (Ev.now _)), by simp⟩
 | cons z zs ih =>
  intro i h
  obtain ⟨hi, hz, h', _⟩ := at_drop h
  by_cases e : x = z
  ·refine ⟨i, Ev.step (fun k => by rw [slices_Index_int_int.l0]) (ev_pos (by omega) (ev_pos (by omega) (ev_pos (by omega) ?_))), by simp [e]⟩
   rw [rd_get hz]
   exact ev_pos e (Ev.now _)
  ·obtain ⟨r, hr, hm⟩ := ih (i + 1) h'
   refine ⟨r, Ev.step (fun k => by rw [slices_Index_int_int.l0]) (ev_pos (by omega) (ev_pos (by omega) (ev_pos (by omega) ?_))), by simp [e, hm]⟩
   rw [rd_get hz, wrap_id (by omega) (by omega)]
   exact ev_neg e hr
theorem containsInt_ev (xs : List Int) (x : Int) (hn : xs.length ≤ 9223372036854775807) : Ev (fun k => slices_Contains_int_int.f k xs x) (decide (x ∈ xs)) := by
 unfold slices_Contains_int_int.f slices_Index_int_int.f
 obtain ⟨r, hr, hm⟩ := indexInt_l0 xs x hn xs 0 rfl
 exact Ev.bind hr (ev_eq (Ev.now _) (decide_eq_decide.2 hm))
theorem l1In_eq (x a b : Int) : spec_l1In.f x a b = some (decide (a ≤ x ∧ x ≤ b)) := by
 unfold spec_l1In.f
 by_cases h : a ≤ x <;> simp [h]
theorem inRange_eq (x a b : Int) : impl_InRange.f x a b = some (decide (a ≤ x ∧ x ≤ b)) := by
 unfold impl_InRange.f
 by_cases h : a ≤ x <;> simp [h]

/-- Where a reader of draws stands: within its bytes. -/
def Cur (b : List Int) (i : Int) : Prop := 0 ≤ i ∧ i ≤ b.length
theorem and255 (x : Int) : 0 ≤ Go.bits .and .i64 x 255 ∧ Go.bits .and .i64 x 255 ≤ 255 := by
 have h : (BitVec.ofInt 64 x &&& BitVec.ofInt 64 255).toNat ≤ 255 := by
  rw [BitVec.toNat_and]
  have h2 : (BitVec.ofInt 64 255).toNat = 255 := by decide
  rw [h2]
  exact Nat.and_le_right
 have e : Go.bits .and .i64 x 255 = IntKind.i64.wrap ((BitVec.ofInt 64 x &&& BitVec.ofInt 64 255).toNat : Int) := rfl
 rw [e, IntKind.wrap_i64]
 omega
theorem l1Byte_ok (b : List Int) (i h : Int) (hc : Cur b i) (hb : b.length ≤ 1048576) : ∃ r i2 h2, spec_l1Byte.f b i h = some (r, i2, h2) ∧ (0 ≤ r ∧ r ≤ 255) ∧ Cur b i2 := by
 obtain ⟨hc0, hc1⟩ := hc
 unfold spec_l1Byte.f
 by_cases hi : i < (b.length : Int)
 ·rw [if_pos hi, if_pos hc0, wrap_id (x := i + 1) (by omega) (by omega)]
  exact ⟨_, _, _, rfl, and255 _, by unfold Cur; omega⟩
 ·rw [if_neg hi]
  exact ⟨_, _, _, rfl, and255 _, hc0, hc1⟩
theorem tmod_ok (x n : Int) (hx : 0 ≤ x) (hn : 0 < n) : 0 ≤ Int.tmod x n ∧ Int.tmod x n < n := by
 rw [Int.tmod_eq_emod_of_nonneg hx]
 exact ⟨Int.emod_nonneg _ (by omega), Int.emod_lt_of_pos _ hn⟩
theorem l1Below_ok (b : List Int) (i h n : Int) (hc : Cur b i) (hb : b.length ≤ 1048576) : ∃ r i2 h2, spec_l1Below.f b i h n = some (r, i2, h2) ∧ 0 ≤ r ∧ (0 < n → r < n) ∧ (n ≤ 0 → r = 0) ∧ Cur b i2 := by
 unfold spec_l1Below.f
 by_cases h0 : n ≤ 0
 ·rw [if_pos h0]
  exact ⟨_, _, _, rfl, by omega, by omega, fun _ => rfl, hc⟩
 ·rw [if_neg h0]
  by_cases h1 : n ≤ 256
  ·obtain ⟨r, i2, h2, e, hr, hc2⟩ := l1Byte_ok b i h hc hb
   rw [if_pos h1, e]
   simp only [Option.bind_some]
   rw [if_neg (by omega)]
   exact ⟨_, _, _, rfl, (tmod_ok r n hr.1 (by omega)).1, fun _ => (tmod_ok r n hr.1 (by omega)).2, by omega, hc2⟩
  ·obtain ⟨r, i2, h2, e, hr, hc2⟩ := l1Byte_ok b i h hc hb
   obtain ⟨r3, i3, h3, e3, hr3, hc3⟩ := l1Byte_ok b i2 h2 hc2 hb
   obtain ⟨r4, i4, h4, e4, hr4, hc4⟩ := l1Byte_ok b i3 h3 hc3 hb
   rw [if_neg h1, e]
   simp only [Option.bind_some]
   rw [e3]
   simp only [Option.bind_some]
   rw [e4]
   simp only [Option.bind_some]
   rw [if_neg (by omega), wrap_id (x := r * 65536) (by omega) (by omega), wrap_id (x := r3 * 256) (by omega) (by omega), wrap_id (x := r * 65536 + r3 * 256) (by omega) (by omega), wrap_id (x := r * 65536 + r3 * 256 + r4) (by omega) (by omega)]
   exact ⟨_, _, _, rfl, (tmod_ok _ n (by omega) (by omega)).1, fun _ => (tmod_ok _ n (by omega) (by omega)).2, by omega, hc4⟩
theorem l1New_l0 (b : List Int) (hb : b.length ≤ 1048576) : ∀ (zs : List Int) (i : Nat) (h : Int), b.drop i = zs → ∃ h2, Ev (fun k => spec_l1New.l0 k b h (i : Int)) (b, 0, h2) := by
 intro zs
 induction zs with
 | nil =>
  intro i h hd
  have := at_end hd
  refine ⟨h, Ev.step (fun k => by rw [spec_l1New.l0]) ?_⟩
  exact ev_neg (by omega) (Ev.now _)
 | cons z zs ih =>
  intro i h hd
  obtain ⟨hi, hz, hd2, _⟩ := at_drop hd
  by_cases h4 : (i : Int) < 4000
  ·obtain ⟨h2, hev⟩ := ih (i + 1) (Go.bits .and .i64 (wrap64 ((wrap64 ((wrap64 (h * 137)) + (wrap64 (rd b (i : Int))))) + 11)) 1073741823) hd2
   refine ⟨h2, Ev.step (fun k => by rw [spec_l1New.l0]) ?_⟩
   refine ev_pos (by omega) (ev_pos h4 (ev_pos (by omega) ?_))
   rw [wrap_id (x := (i : Int) + 1) (by omega) (by omega)]
   exact hev
  ·refine ⟨h, Ev.step (fun k => by rw [spec_l1New.l0]) ?_⟩
   exact ev_pos (by omega) (ev_neg h4 (Ev.now _))
theorem l1New_ok (b : List Int) (hb : b.length ≤ 1048576) : ∃ h2, Ev (fun k => spec_l1New.f k b) (b, 0, h2) ∧ Cur b 0 := by
 unfold spec_l1New.f
 obtain ⟨h2, hev⟩ := l1New_l0 b hb b 0 (wrap64 (193017 + (b.length : Int))) rfl
 exact ⟨h2, hev, by unfold Cur; omega⟩
theorem l1Int_ok (b : List Int) (i h : Int) (l : List Int) (hc : Cur b i) (hb : b.length ≤ 1048576) (hl : 0 < l.length) : ∃ r i2 h2, spec_l1Int.f b i h l = some (r, i2, h2) ∧ r ∈ l ∧ Cur b i2 := by
 unfold spec_l1Int.f
 obtain ⟨r, i2, h2, e, h0, hlt, _, hc2⟩ := l1Below_ok b i h (l.length : Int) hc hb
 have := hlt (by omega)
 rw [e]
 simp only [Option.bind_some]
 rw [if_pos h0, if_pos this]
 refine ⟨_, _, _, rfl, ?_, hc2⟩
 obtain ⟨n, rfl⟩ : ∃ n : Nat, r = n := ⟨r.toNat, by omega⟩
 rw [rd_nat l n (by omega)]
 exact List.getElem_mem _
theorem l1Once_ok (b : List Int) (i h n : Int) (hc : Cur b i) (hb : b.length ≤ 1048576) : ∃ (r : Bool) (i2 h2 : Int), spec_l1Once.f b i h n = some (r, i2, h2) ∧ Cur b i2 := by
 unfold spec_l1Once.f
 obtain ⟨r, i2, h2, e, _, _, _, hc2⟩ := l1Below_ok b i h n hc hb
 rw [e]
 exact ⟨_, _, _, rfl, hc2⟩
theorem l4Raw_ok (b : List Int) (i h : Int) (hc : Cur b i) (hb : b.length ≤ 1048576) : ∃ r i2 h2, spec_l4Raw.f b i h = some (r, i2, h2) ∧ (-9223372036854775808 ≤ r ∧ r ≤ 9223372036854775807) ∧ Cur b i2 := by
 unfold spec_l4Raw.f
 obtain ⟨r, i2, h2, e, hm, hc2⟩ := l1Int_ok b i h [(-1), 0, 5, 10, 11, 9223372036854775807, (-9223372036854775808)] hc hb (by decide)
 rw [e]
 refine ⟨_, _, _, rfl, ?_, hc2⟩
 simp only [List.mem_cons, List.not_mem_nil, or_false] at hm
 show -9223372036854775808 ≤ r ∧ r ≤ 9223372036854775807
 omega
theorem big_eq (b : List Int) : laws_big.f b = some (decide ((b.length : Int) > 1048576)) := rfl

def rowOk (h : Int) (r : List Int) : Bool := decide (r.length = 2 ∧ 0 ≤ rd r 0 ∧ rd r 0 ≤ h ∧ 0 ≤ rd r 1 ∧ rd r 1 ≤ h)
def lexLt (p r : List Int) : Bool := decide (rd p 0 < rd r 0 ∨ rd p 0 = rd r 0 ∧ rd p 1 < rd r 1)
def rowsOk (h : Int) : Option (List Int) → List (List Int) → Bool
 | _, [] => true
 | p, r :: rs => rowOk h r && ((match p with | none => true | some q => lexLt q r) && rowsOk h (some r) rs)
def isGraph (n : Int) (rs : List (List Int)) : Bool := decide (0 ≤ n ∧ n ≤ 10) && rowsOk (wrap64 (n - 1)) none rs
theorem isGraph_spec_l0 (n : Int) (xs : List (List Int)) (hn : xs.length ≤ 4611686018427387904) : ∀ (zs : List (List Int)) (i : Nat) (p : Option (List Int)), xs.drop i = zs → (i = 0 ∧ p = none ∨ ∃ q, p = some q ∧ 0 < i ∧ xs[i - 1]? = some q ∧ q.length = 2) → Ev (fun k => spec_IsGraph.l0 k (i : Int) n xs) (rowsOk (wrap64 (n - 1)) p zs && decide (0 ≤ n ∧ n ≤ 10)) := by
 intro zs
 induction zs with
 | nil =>
  intro i p h _
  have := at_end h
  refine Ev.step (fun k => by rw [spec_IsGraph.l0]) ?_
  refine ev_neg (by omega) (ev_bind0 (l1In_eq _ _ _) (ev_eq (Ev.now _) ?_))
  simp [rowsOk]
 | cons z zs ih =>
  intro i p h hp
  obtain ⟨hlt, hz, h2, _⟩ := at_drop h
  have hr : rd_L2 xs (i : Int) = z := getD_at hz
  refine Ev.step (fun k => by rw [spec_IsGraph.l0]) ?_
  refine ev_pos (by omega) (ev_pos (by omega) ?_)
  rw [hr]
  have bad : rowOk (wrap64 (n - 1)) z = false → Ev (fun k => spec_IsGraph.j1 k (i : Int) z true n xs) (rowsOk (wrap64 (n - 1)) p (z :: zs) && decide (0 ≤ n ∧ n ≤ 10)) := by
   intro hb
   refine Ev.step (fun k => by rw [spec_IsGraph.j1]) (ev_pos rfl (ev_eq (Ev.now _) ?_))
   simp [rowsOk, hb]
  refine ev_ite (fun e1 => ev_pos (by omega) (ev_bind0 (l1In_eq _ _ _) (ev_ite (fun e2 => ev_pos (by omega) (ev_bind0 (l1In_eq _ _ _) ?_)) (fun e2 => bad ?_)))) (fun e1 => bad ?_)
  ·have e2 := of_decide_eq_true e2
   by_cases e3 : 0 ≤ rd z 1 ∧ rd z 1 ≤ wrap64 (n - 1)
   ·have hok : rowOk (wrap64 (n - 1)) z = true := decide_eq_true ⟨by omega, e2.1, e2.2, e3.1, e3.2⟩
    have hl2 : z.length = 2 := by omega
    have ih2 := ih (i + 1) (some z) h2 (.inr ⟨z, rfl, by omega, hz, hl2⟩)
    rw [decide_eq_true e3]
    refine Ev.step (fun k => by rw [spec_IsGraph.j1]) (ev_neg (by decide) ?_)
    rw [wrap_id (x := (i : Int) + 1) (by omega) (by omega)]
    rcases hp with ⟨hi0, rfl⟩ | ⟨q, rfl, hi0, hq, hq2⟩
    ·refine ev_neg (by omega) (ev_eq ih2 ?_)
     simp [rowsOk, hok]
    ·have hr2 : rd_L2 xs ((i : Int) - 1) = q := by
      rw [show (i : Int) - 1 = ((i - 1 : Nat) : Int) by omega]
      exact getD_at hq
     rw [wrap_id (x := (i : Int) - 1) (by omega) (by omega), hr2]
     refine ev_pos (by omega) (ev_pos (by omega) (ev_pos (by omega) (ev_pos (by omega) (ev_pos (by omega) ?_))))
     refine ev_ite (fun e4 => ev_eq (Ev.now _) ?_) (fun e4 => ev_ite (fun e5 => ev_pos (by omega) (ev_pos (by omega) (ev_ite (fun e6 => ev_eq (Ev.now _) ?_) (fun e6 => ev_eq ih2 ?_)))) (fun e5 => ev_eq ih2 ?_))
     ·have : lexLt q z = false := decide_eq_false (by omega)
      simp [rowsOk, this]
     ·have : lexLt q z = false := decide_eq_false (by omega)
      simp [rowsOk, this]
     ·have : lexLt q z = true := decide_eq_true (by omega)
      simp [rowsOk, this, hok]
     ·have : lexLt q z = true := decide_eq_true (by omega)
      simp [rowsOk, this, hok]
   ·rw [decide_eq_false e3]
    exact bad (decide_eq_false (by rintro ⟨_, _, _, h4, h5⟩; exact e3 ⟨h4, h5⟩))
  ·have e2 : ¬ _ := fun h => e2 (decide_eq_true h)
   exact decide_eq_false (by rintro ⟨_, h2, h3, _⟩; exact e2 ⟨h2, h3⟩)
  ·exact decide_eq_false (by rintro ⟨h1, _⟩; omega)
theorem isGraph_specB (n : Int) (xs : List (List Int)) (hn : xs.length ≤ 4611686018427387904) : Ev (fun k => spec_IsGraph.f k n xs) (isGraph n xs) := by
 unfold spec_IsGraph.f
 refine ev_eq (isGraph_spec_l0 n xs hn xs 0 none rfl (.inl ⟨rfl, rfl⟩)) ?_
 unfold isGraph
 exact Bool.and_comm _ _
theorem isGraph_spec (n : Int) (xs : List (List Int)) (hn : xs.length ≤ 1048576) : Ev (fun k => spec_IsGraph.f k n xs) (isGraph n xs) := isGraph_specB n xs (by omega)
theorem isGraph_n {n : Int} {xs : List (List Int)} (h : isGraph n xs = true) : 0 ≤ n ∧ n ≤ 10 := by
 unfold isGraph at h
 exact of_decide_eq_true (Bool.and_eq_true_iff.1 h).1
theorem rowsOk_mem {h : Int} : ∀ (rs : List (List Int)) (p : Option (List Int)), rowsOk h p rs = true → ∀ r ∈ rs, rowOk h r = true := by
 intro rs
 induction rs with
 | nil => intro p _ r hr; exact absurd hr (by simp)
 | cons a rs ih =>
  intro p hp r hr
  unfold rowsOk at hp
  simp only [Bool.and_eq_true] at hp
  rcases List.mem_cons.1 hr with rfl | hr
  ·exact hp.1
  ·exact ih (some a) hp.2.2 r hr
theorem isGraph_row {n : Int} {xs : List (List Int)} (h : isGraph n xs = true) {r : List Int} (hr : r ∈ xs) : r.length = 2 ∧ 0 ≤ rd r 0 ∧ rd r 0 ≤ n - 1 ∧ 0 ≤ rd r 1 ∧ rd r 1 ≤ n - 1 := by
 have hn := isGraph_n h
 unfold isGraph at h
 have := of_decide_eq_true (rowsOk_mem xs none (Bool.and_eq_true_iff.1 h).2 r hr)
 rw [wrap_id (by omega) (by omega)] at this
 exact this
theorem compare2 (a b c d : Int) : Ev (fun k => slices_Compare_int_int.f k [a, b] [c, d]) (if a < c then -1 else if a > c then 1 else if b < d then -1 else if b > d then 1 else 0) := by
 have hc : ∀ x y : Int, cmp_Compare_int.f x y = some (if x < y then -1 else if x > y then 1 else 0) := by
  intro x y
  unfold cmp_Compare_int.f cmp_isNaN_int.f
  simp only [bne_self_eq_false, Option.bind_some, Bool.false_eq_true, if_false]
  split
  ·rfl
  ·split <;> rfl
 have hl : ∀ x y : Int, (([x, y] : List Int).length : Int) = 2 := fun _ _ => rfl
 unfold slices_Compare_int_int.f
 refine Ev.step (fun k => by rw [slices_Compare_int_int.l0]) ?_
 rw [hl, hl]
 refine ev_pos (by omega) (ev_pos (by omega) (ev_pos (by omega) (ev_neg (by omega) (ev_pos (by omega) (ev_bind0 (hc _ _) ?_)))))
 rw [show rd [a, b] 0 = a from rfl, show rd [c, d] 0 = c from rfl]
 by_cases h1 : a < c
 ·rw [if_pos h1, if_pos h1]
  exact ev_neg (by omega) (Ev.now _)
 ·rw [if_neg h1, if_neg h1]
  by_cases h2 : a > c
  ·rw [if_pos h2, if_pos h2]
   exact ev_neg (by omega) (Ev.now _)
  ·rw [if_neg h2, if_neg h2]
   refine ev_pos rfl ?_
   rw [wrap_id (x := 0 + 1) (by omega) (by omega)]
   refine Ev.step (fun k => by rw [slices_Compare_int_int.l0]) ?_
   rw [hl, hl]
   refine ev_pos (by omega) (ev_pos (by omega) (ev_pos (by omega) (ev_neg (by omega) (ev_pos (by omega) (ev_bind0 (hc _ _) ?_)))))
   rw [show rd [a, b] (0 + 1) = b from rfl, show rd [c, d] (0 + 1) = d from rfl]
   by_cases h3 : b < d
   ·rw [if_pos h3]
    exact ev_neg (by omega) (Ev.now _)
   ·rw [if_neg h3]
    by_cases h4 : b > d
    ·rw [if_pos h4]
     exact ev_neg (by omega) (Ev.now _)
    ·rw [if_neg h4]
     refine ev_pos rfl ?_
     rw [wrap_id (x := 0 + 1 + 1) (by omega) (by omega)]
     refine Ev.step (fun k => by rw [slices_Compare_int_int.l0]) ?_
     rw [hl, hl]
     exact ev_neg (by omega) (ev_neg (by omega) (Ev.now _))
theorem two_of {r : List Int} (h : r.length = 2) : r = [rd r 0, rd r 1] := by
 match r, h with
 | [a, b], _ => rfl
theorem compare_rows (q z : List Int) (hq : q.length = 2) (hz : z.length = 2) : ∃ c : Int, Ev (fun k => slices_Compare_int_int.f k q z) c ∧ (c ≥ 0 ↔ lexLt q z = false) := by
 refine ⟨_, by rw [two_of hq, two_of hz]; exact compare2 _ _ _ _, ?_⟩
 unfold lexLt
 rw [decide_eq_false_iff_not]
 generalize rd q 0 = a
 generalize rd q 1 = b
 generalize rd z 0 = c
 generalize rd z 1 = d
 split
 ·omega
 ·split
  ·omega
  ·split
   ·omega
   ·split <;> omega
theorem isClaim_eq (n : Int) (xs : List (List Int)) (a : Int) : impl_isClaim.f n xs a = some (decide (0 ≤ a ∧ a ≤ wrap64 (n - 1))) := by
 unfold impl_isClaim.f
 rw [inRange_eq]
 rfl
theorem isGraph_impl_l0 (n : Int) (xs : List (List Int)) (hn : xs.length ≤ 4611686018427387904) : ∀ (zs : List (List Int)) (i : Nat) (p : Option (List Int)), xs.drop i = zs → (i = 0 ∧ p = none ∨ ∃ q, p = some q ∧ 0 < i ∧ xs[i - 1]? = some q ∧ q.length = 2) → Ev (fun k => impl_IsGraph.l0 k xs xs.length (i : Int) n xs) (rowsOk (wrap64 (n - 1)) p zs) := by
 intro zs
 induction zs with
 | nil =>
  intro i p h _
  have := at_end h
  refine Ev.step (fun k => by rw [impl_IsGraph.l0]) ?_
  exact ev_neg (by omega) (Ev.now _)
 | cons z zs ih =>
  intro i p h hp
  obtain ⟨hlt, hz, h2, _⟩ := at_drop h
  have hr : rd_L2 xs (i : Int) = z := getD_at hz
  refine Ev.step (fun k => by rw [impl_IsGraph.l0]) ?_
  refine ev_pos (by omega) (ev_pos (by omega) (ev_pos (by omega) ?_))
  rw [hr]
  have no : Ev (fun k => impl_IsGraph.j1 k xs xs.length (i : Int) true n xs) false := Ev.step (fun k => by rw [impl_IsGraph.j1]) (ev_pos rfl (Ev.now _))
  have go : ∀ R, Ev (fun k => impl_IsGraph.l0 k xs xs.length (wrap64 ((i : Int) + 1)) n xs) R → Ev (fun k => impl_IsGraph.j1 k xs xs.length (i : Int) false n xs) R := fun R hR => Ev.step (fun k => by rw [impl_IsGraph.j1]) (ev_neg (by decide) hR)
  have bad : rowOk (wrap64 (n - 1)) z = false → false = rowsOk (wrap64 (n - 1)) p (z :: zs) := by
   intro hb
   simp [rowsOk, hb]
  refine ev_ite (fun e1 => ev_pos (by omega) (ev_bind0 (isClaim_eq _ _ _) (ev_ite (fun e2 => ev_pos (by omega) (ev_bind0 (isClaim_eq _ _ _) (ev_ite (fun e3 => ?_) (fun e3 => ev_eq no (bad ?_))))) (fun e2 => ev_eq no (bad ?_))))) (fun e1 => ev_eq no (bad ?_))
  ·have e2 := of_decide_eq_true e2
   have e3 := of_decide_eq_true e3
   have hok : rowOk (wrap64 (n - 1)) z = true := decide_eq_true ⟨by omega, e2.1, e2.2, e3.1, e3.2⟩
   have hl2 : z.length = 2 := by omega
   have ih2 : Ev (fun k => impl_IsGraph.l0 k xs xs.length (wrap64 ((i : Int) + 1)) n xs) (rowsOk (wrap64 (n - 1)) (some z) zs) := by
    rw [wrap_id (x := (i : Int) + 1) (by omega) (by omega)]
    exact ih (i + 1) (some z) h2 (.inr ⟨z, rfl, by omega, hz, hl2⟩)
   rcases hp with ⟨hi0, rfl⟩ | ⟨q, rfl, hi0, hq, hq2⟩
   ·refine ev_neg (by omega) (ev_eq (go _ ih2) ?_)
    simp [rowsOk, hok]
   ·have hr2 : rd_L2 xs ((i : Int) - 1) = q := by
     rw [show (i : Int) - 1 = ((i - 1 : Nat) : Int) by omega]
     exact getD_at hq
    rw [wrap_id (x := (i : Int) - 1) (by omega) (by omega), hr2]
    obtain ⟨c, hc, hc2⟩ := compare_rows q z hq2 hl2
    refine ev_pos (by omega) (ev_pos (by omega) (ev_pos (by omega) (Ev.bind hc (Ev.step (fun k => by rw [impl_IsGraph.j1]) (ev_ite (fun e4 => ev_eq (Ev.now _) ?_) (fun e4 => ev_eq ih2 ?_))))))
    ·have := hc2.1 (of_decide_eq_true e4)
     simp [rowsOk, this]
    ·have : lexLt q z = true := by
      cases hl : lexLt q z with
      | true => rfl
      | false => exact absurd (decide_eq_true (hc2.2 hl)) e4
     simp [rowsOk, this, hok]
  ·have e3 : ¬ _ := fun h => e3 (decide_eq_true h)
   exact decide_eq_false (by rintro ⟨_, _, _, h4, h5⟩; exact e3 ⟨h4, h5⟩)
  ·have e2 : ¬ _ := fun h => e2 (decide_eq_true h)
   exact decide_eq_false (by rintro ⟨_, h2, h3, _⟩; exact e2 ⟨h2, h3⟩)
  ·exact decide_eq_false (by rintro ⟨h1, _⟩; omega)
theorem isGraph_implB (n : Int) (xs : List (List Int)) (hn : xs.length ≤ 4611686018427387904) : Ev (fun k => impl_IsGraph.f k n xs) (isGraph n xs) := by
 unfold impl_IsGraph.f isGraph
 refine ev_bind0 (inRange_eq _ _ _) (ev_ite (fun e => ?_) (fun e => ev_eq (Ev.now _) ?_))
 ·rw [e, Bool.true_and]
  exact isGraph_impl_l0 n xs hn xs 0 none rfl (.inl ⟨rfl, rfl⟩)
 ·rw [show decide (0 ≤ n ∧ n ≤ 10) = false by simpa using e, Bool.false_and]
theorem isGraph_impl (n : Int) (xs : List (List Int)) (hn : xs.length ≤ 1048576) : Ev (fun k => impl_IsGraph.f k n xs) (isGraph n xs) := isGraph_implB n xs (by omega)
def loops (rs : List (List Int)) : Nat := rs.countP fun r => decide (rd r 0 = rd r 1)
theorem countLoops_impl_l0 (n : Int) (xs : List (List Int)) (hg : isGraph n xs = true) (hn : xs.length ≤ 1048576) : ∀ (zs : List (List Int)) (i c : Nat), xs.drop i = zs → c ≤ i → Ev (fun k => impl_CountLoops.l0 k (c : Int) xs xs.length (i : Int)) ((c + loops zs : Nat) : Int) := by
 intro zs
 induction zs with
 | nil =>
  intro i c h _
  have := at_end h
  refine Ev.step (fun k => by rw [impl_CountLoops.l0]) ?_
  exact ev_neg (by omega) (ev_eq (Ev.now _) (by simp [loops]))
 | cons z zs ih =>
  intro i c h hc
  obtain ⟨hlt, hz, h2, _⟩ := at_drop h
  have hr : rd_L2 xs (i : Int) = z := getD_at hz
  refine Ev.step (fun k => by rw [impl_CountLoops.l0]) ?_
  have hg := isGraph_row hg (List.mem_of_getElem? hz)
  rw [hr, wrap_id (x := (i : Int) + 1) (by omega) (by omega), wrap_id (x := (c : Int) + 1) (by omega) (by omega)]
  refine ev_pos (by omega) (ev_pos (by omega) (ev_pos (by omega) (ev_pos (by omega) (ev_pos (by omega) (ev_ite (fun e2 => ev_eq (ih (i + 1) (c + 1) h2 (by omega)) ?_) (fun e2 => ev_eq (ih (i + 1) c h2 (by omega)) ?_))))))
  ·unfold loops
   rw [List.countP_cons, if_pos (by simp [e2])]
   omega
  ·unfold loops
   rw [List.countP_cons, if_neg (by simp [e2])]
   rfl
theorem countLoops_impl (n : Int) (xs : List (List Int)) (hn : xs.length ≤ 1048576) : Ev (fun k => impl_CountLoops.f k n xs) (if isGraph n xs then (loops xs : Int) else 0) := by
 unfold impl_CountLoops.f
 refine Ev.bind (isGraph_impl n xs hn) (ev_ite (fun e => ev_eq (countLoops_impl_l0 n xs e hn xs 0 0 rfl (by omega)) ?_) (fun e => ev_eq (Ev.now _) ?_))
 ·rw [if_pos e]; simp
 ·rw [if_neg e]

def victims (n : Int) (xs : List (List Int)) (a : Int) : List Int := if isGraph n xs then (xs.filter fun r => decide (rd r 0 = a)).map fun r => rd r 1 else []
def attackers (n : Int) (xs : List (List Int)) (a : Int) : List Int := if isGraph n xs then (xs.filter fun r => decide (rd r 1 = a)).map fun r => rd r 0 else []
def does (n : Int) (xs : List (List Int)) (a b : Int) : Bool := isGraph n xs && xs.any fun r => decide (rd r 0 = a ∧ rd r 1 = b)
theorem victims_length (n : Int) (xs : List (List Int)) (a : Int) : (victims n xs a).length ≤ xs.length := by
 unfold victims
 split
 ·rw [List.length_map]; exact List.length_filter_le _ _
 ·simp
theorem attackers_length (n : Int) (xs : List (List Int)) (a : Int) : (attackers n xs a).length ≤ xs.length := by
 unfold attackers
 split
 ·rw [List.length_map]; exact List.length_filter_le _ _
 ·simp
theorem victims_mem (n : Int) (xs : List (List Int)) (a b : Int) : decide (b ∈ victims n xs a) = does n xs a b := by
 rw [Bool.eq_iff_iff, decide_eq_true_eq]
 unfold victims does
 cases isGraph n xs with
 | false => simp
 | true =>
  rw [if_pos rfl, Bool.true_and, List.any_eq_true, List.mem_map]
  constructor
  ·rintro ⟨r, hr, rfl⟩
   rw [List.mem_filter] at hr
   exact ⟨r, hr.1, decide_eq_true ⟨of_decide_eq_true hr.2, rfl⟩⟩
  ·rintro ⟨r, hr, h⟩
   have h := of_decide_eq_true h
   exact ⟨r, List.mem_filter.2 ⟨hr, decide_eq_true h.1⟩, h.2⟩
theorem does_range {n : Int} {xs : List (List Int)} {a b : Int} (h : does n xs a b = true) : 0 ≤ a ∧ a ≤ n - 1 ∧ 0 ≤ b ∧ b ≤ n - 1 := by
 unfold does at h
 rw [Bool.and_eq_true, List.any_eq_true] at h
 obtain ⟨hg, r, hr, h2⟩ := h
 have h2 := of_decide_eq_true h2
 have := isGraph_row hg hr
 rw [h2.1, h2.2] at this
 exact ⟨this.2.1, this.2.2.1, this.2.2.2.1, this.2.2.2.2⟩
theorem victims_l0 (n : Int) (xs : List (List Int)) (a : Int) (hg : isGraph n xs = true) (hn : xs.length ≤ 1048576) : ∀ (zs : List (List Int)) (i : Nat) (acc : List Int), xs.drop i = zs → acc.length ≤ i → Ev (fun k => impl_VictimsOf.l0 k a acc xs xs.length (i : Int)) (acc ++ (zs.filter fun r => decide (rd r 0 = a)).map fun r => rd r 1) := by
 intro zs
 induction zs with
 | nil =>
  intro i acc h _
  have := at_end h
  refine Ev.step (fun k => by rw [impl_VictimsOf.l0]) ?_
  exact ev_neg (by omega) (ev_eq (Ev.now _) (by simp))
 | cons z zs ih =>
  intro i acc h hl
  obtain ⟨hlt, hz, h2, _⟩ := at_drop h
  have hr : rd_L2 xs (i : Int) = z := getD_at hz
  have hg := isGraph_row hg (List.mem_of_getElem? hz)
  refine Ev.step (fun k => by rw [impl_VictimsOf.l0]) ?_
  rw [hr, wrap_id (x := (i : Int) + 1) (by omega) (by omega)]
  refine ev_pos (by omega) (ev_pos (by omega) (ev_pos (by omega) (ev_pos (by omega) (ev_ite (fun e2 => ev_pos (by omega) (ev_pos (by omega) (ev_eq (ih (i + 1) (acc ++ [rd z 1]) h2 (by first | (simp; done) | (simp; omega))) ?_))) (fun e2 => ev_eq (ih (i + 1) acc h2 (by omega)) ?_)))))
  ·rw [List.filter_cons_of_pos (by simp [e2])]; simp
  ·rw [List.filter_cons_of_neg (by simp [e2])]
theorem victims_impl (n : Int) (xs : List (List Int)) (a : Int) (hn : xs.length ≤ 1048576) : Ev (fun k => impl_VictimsOf.f k n xs a) (victims n xs a) := by
 unfold impl_VictimsOf.f victims
 refine ev_bind0 rfl (Ev.bind (isGraph_impl n xs hn) (ev_ite (fun e => ?_) (fun e => ev_eq (Ev.now _) ?_)))
 ·rw [if_pos e]
  exact victims_l0 n xs a e hn xs 0 [] rfl (by simp)
 ·rw [if_neg e]
theorem attackers_l0 (n : Int) (xs : List (List Int)) (a : Int) (hg : isGraph n xs = true) (hn : xs.length ≤ 1048576) : ∀ (zs : List (List Int)) (i : Nat) (acc : List Int), xs.drop i = zs → acc.length ≤ i → Ev (fun k => impl_AttackersOf.l0 k a acc xs xs.length (i : Int)) (acc ++ (zs.filter fun r => decide (rd r 1 = a)).map fun r => rd r 0) := by
 intro zs
 induction zs with
 | nil =>
  intro i acc h _
  have := at_end h
  refine Ev.step (fun k => by rw [impl_AttackersOf.l0]) ?_
  exact ev_neg (by omega) (ev_eq (Ev.now _) (by simp))
 | cons z zs ih =>
  intro i acc h hl
  obtain ⟨hlt, hz, h2, _⟩ := at_drop h
  have hr : rd_L2 xs (i : Int) = z := getD_at hz
  have hg := isGraph_row hg (List.mem_of_getElem? hz)
  refine Ev.step (fun k => by rw [impl_AttackersOf.l0]) ?_
  rw [hr, wrap_id (x := (i : Int) + 1) (by omega) (by omega)]
  refine ev_pos (by omega) (ev_pos (by omega) (ev_pos (by omega) (ev_pos (by omega) (ev_ite (fun e2 => ev_pos (by omega) (ev_pos (by omega) (ev_eq (ih (i + 1) (acc ++ [rd z 0]) h2 (by first | (simp; done) | (simp; omega))) ?_))) (fun e2 => ev_eq (ih (i + 1) acc h2 (by omega)) ?_)))))
  ·rw [List.filter_cons_of_pos (by simp [e2])]; simp
  ·rw [List.filter_cons_of_neg (by simp [e2])]
theorem attackers_impl (n : Int) (xs : List (List Int)) (a : Int) (hn : xs.length ≤ 1048576) : Ev (fun k => impl_AttackersOf.f k n xs a) (attackers n xs a) := by
 unfold impl_AttackersOf.f attackers
 refine ev_bind0 rfl (Ev.bind (isGraph_impl n xs hn) (ev_ite (fun e => ?_) (fun e => ev_eq (Ev.now _) ?_)))
 ·rw [if_pos e]
  exact attackers_l0 n xs a e hn xs 0 [] rfl (by simp)
 ·rw [if_neg e]
def answers (n : Int) (xs : List (List Int)) (own : List Int) (a : Int) : List Int := (attackers n xs a).filter fun x => !decide (x ∈ own)
def innerOf (m : Int) (ys : List (List Int)) : List (List Int) := ys.filter fun r => decide (rd r 0 < m ∧ rd r 1 < m)
theorem alikeRows_ev (xs ys : List Int) (hn : xs.length ≤ 9223372036854775807) : Ev (fun k => rowsAlike.f k xs ys) (decide (xs = ys)) := by
 have l0 : (hl : xs.length = ys.length) → ∀ (zs us : List Int) (i : Nat), xs.drop i = zs → ys.drop i = us → Ev (fun k => rowsAlike.l0 k xs ys xs.length (i : Int)) (decide (zs = us)) := by
  intro hl zs
  induction zs with
  | nil =>
   intro us i h hu
   have := at_end h
   refine Ev.step (fun k => by rw [rowsAlike.l0]) ?_
   rw [List.drop_of_length_le (by omega)] at hu
   subst hu
   exact ev_neg (by omega) (ev_eq (Ev.now _) (by simp))
  | cons z zs ih =>
   intro us i h hu
   obtain ⟨hlt, hz, h2, _⟩ := at_drop h
   cases us with
   | nil => have := at_end hu; omega
   | cons u us =>
    obtain ⟨_, hzu, hu2, _⟩ := at_drop hu
    refine Ev.step (fun k => by rw [rowsAlike.l0]) ?_
    refine ev_pos (by omega) (ev_pos (by omega) (ev_pos (by omega) (ev_pos (by omega) ?_)))
    rw [wrap_id (by omega) (by omega), rd_get hz, rd_get hzu]
    refine ev_ite (fun e => ev_eq (ih us (i + 1) h2 hu2) ?_) (fun e => ev_eq (Ev.now _) ?_)
    ·simp [e]
    ·simp [e]
 unfold rowsAlike.f
 refine ev_ite (fun e => l0 (by omega) xs ys 0 rfl rfl) (fun e => ev_eq (Ev.now _) ?_)
 have : xs ≠ ys := by rintro rfl; exact e rfl
 simp [this]
theorem equalFunc_ev (xs ys : List (List Int)) (hn : xs.length ≤ 1048576) (hi : ∀ y ∈ xs, y.length ≤ 1048576) : Ev (fun k => slices_EqualFunc_int_int_int_int.f k xs ys 76) (decide (xs = ys)) := by
 unfold slices_EqualFunc_int_int_int_int.f
 refine ev_pos rfl (ev_ite (fun e => ?_) (fun e => ev_eq (Ev.now _) ?_))
 ·have l0 : ∀ (zs us : List (List Int)) (i : Nat), xs.drop i = zs → ys.drop i = us → Ev (fun k => slices_EqualFunc_int_int_int_int.l0 k xs ys (i : Int)) (decide (zs = us)) := by
   intro zs
   induction zs with
   | nil =>
    intro us i h hu
    have := at_end h
    refine Ev.step (fun k => by rw [slices_EqualFunc_int_int_int_int.l0]) ?_
    rw [List.drop_of_length_le (by omega)] at hu
    subst hu
    exact ev_neg (by omega) (ev_eq (Ev.now _) (by simp))
   | cons z zs ih =>
    intro us i h hu
    obtain ⟨hlt, hz, h2, _⟩ := at_drop h
    cases us with
    | nil => have := at_end hu; omega
    | cons u us =>
     obtain ⟨_, hzu, hu2, _⟩ := at_drop hu
     have hr : rd_L2 xs (i : Int) = z := getD_at hz
     have hr2 : rd_L2 ys (i : Int) = u := getD_at hzu
     have hzl := hi z (List.mem_of_getElem? hz)
     refine Ev.step (fun k => by rw [slices_EqualFunc_int_int_int_int.l0]) ?_
     refine ev_pos (by omega) (ev_pos (by omega) (ev_pos (by omega) ?_))
     rw [wrap_id (by omega) (by omega), hr, hr2]
     refine Ev.bind (alikeRows_ev z u (by omega)) (ev_ite (fun e => ev_eq (ih us (i + 1) h2 hu2) ?_) (fun e => ev_eq (Ev.now _) ?_))
     ·simp only [decide_eq_true_eq] at e
      simp [e]
     ·simp only [decide_eq_true_eq] at e
      simp [e]
  exact l0 xs ys 0 rfl rfl
 ·have : xs ≠ ys := by rintro rfl; exact e rfl
  simp [this]
theorem partI_l0 (m n : Int) (xs ys : List (List Int)) (hx : xs.length ≤ 1048576) (hi : ∀ y ∈ xs, y.length ≤ 1048576) (hy : ys.length ≤ 1048576) (hg : isGraph n ys = true) : ∀ (zs : List (List Int)) (i : Nat) (acc : List (List Int)), ys.drop i = zs → acc.length ≤ i → acc ++ innerOf m zs = innerOf m ys → Ev (fun k => impl_IsPartOf.l0 k acc ys ys.length (i : Int) m xs) (decide (xs = innerOf m ys)) := by
 intro zs
 induction zs with
 | nil =>
  intro i acc h _ ha
  have := at_end h
  refine Ev.step (fun k => by rw [impl_IsPartOf.l0]) ?_
  rw [show acc = innerOf m ys by simpa [innerOf] using ha]
  exact ev_neg (by omega) (Ev.bind (equalFunc_ev xs _ hx hi) (Ev.now _))
 | cons z zs ih =>
  intro i acc h hl ha
  obtain ⟨hlt, hz, h2, _⟩ := at_drop h
  have hr : rd_L2 ys (i : Int) = z := getD_at hz
  have hrow := isGraph_row hg (List.mem_of_getElem? hz)
  refine Ev.step (fun k => by rw [impl_IsPartOf.l0]) ?_
  rw [hr, wrap_id (by omega) (by omega)]
  have hno : ¬ (rd z 0 < m ∧ rd z 1 < m) → acc ++ innerOf m zs = innerOf m ys := by
   intro hn
   rw [← ha]
   unfold innerOf
   rw [List.filter_cons_of_neg (by simpa using hn)]
  refine ev_pos (by omega) (ev_pos (by omega) (ev_pos (by omega) (ev_pos (by omega) (ev_ite (fun e0 => ev_pos (by omega) (ev_ite (fun e1 => ev_pos (by omega) (ih (i + 1) (acc ++ [z]) h2 (by first | (simp; done) | (simp; omega)) ?_)) (fun e1 => ih (i + 1) acc h2 (by omega) (hno (fun h => e1 h.2))))) (fun e0 => ih (i + 1) acc h2 (by omega) (hno (fun h => e0 h.1)))))))
  rw [← ha]
  unfold innerOf
  rw [List.filter_cons_of_pos (by simp [e0, e1])]
  simp
theorem copyG_l0 (n : Int) (xs : List (List Int)) (hn : xs.length ≤ 1048576) (hi : ∀ y ∈ xs, y.length ≤ 1048576) : ∀ (zs : List (List Int)) (i : Nat) (m : Int) (acc : List (List Int)), xs.drop i = zs → acc.length = i → Ev (fun k => spec_l4Copy.l0 k (i : Int) n xs m acc) (m, acc ++ zs) := by
 intro zs
 induction zs with
 | nil =>
  intro i m acc h hl
  have := at_end h
  refine Ev.step (fun k => by rw [spec_l4Copy.l0]) ?_
  exact ev_neg (by omega) (ev_eq (Ev.now _) (by simp))
 | cons z zs ih =>
  intro i m acc h hl
  obtain ⟨hlt, hz, h2, _⟩ := at_drop h
  have hr : rd_L2 xs (i : Int) = z := getD_at hz
  have hm := hi z (List.mem_of_getElem? hz)
  refine Ev.step (fun k => by rw [spec_l4Copy.l0]) ?_
  refine ev_pos (by omega) (ev_bind0 (a := ([] : List Int)) rfl (ev_pos (by omega) ?_))
  rw [hr, wrap_id (x := (i : Int) + 1) (by omega) (by omega)]
  refine ev_pos (by simp only [List.length_nil]; omega) (ev_pos (by omega) ?_)
  refine ev_eq (ih (i + 1) m (acc ++ [[] ++ z]) h2 (by first | (simp; done) | (simp; omega))) (by simp)
theorem copyG_ev (n : Int) (xs : List (List Int)) (hn : xs.length ≤ 1048576) (hi : ∀ y ∈ xs, y.length ≤ 1048576) : Ev (fun k => spec_l4Copy.f k n xs) (n, xs) := by
 unfold spec_l4Copy.f
 simpa using copyG_l0 n xs hn hi xs 0 n [] rfl rfl
theorem cloneI_eq (xs : List Int) (h : xs.length ≤ 1048576) : slices_Clone_int_int.f xs = some xs := by
 unfold slices_Clone_int_int.f
 rw [Option.bind_some, if_pos (by simp only [List.length_nil]; omega)]
 rfl
theorem cloneG_l0 (n : Int) (xs : List (List Int)) (hn : xs.length ≤ 1048576) (hi : ∀ y ∈ xs, y.length ≤ 1048576) : ∀ (zs : List (List Int)) (i : Nat) (m : Int) (acc : List (List Int)), xs.drop i = zs → acc.length = i → Ev (fun k => impl_cloneGraph.l0 k xs (xs.length : Int) (i : Int) m acc) (m, acc ++ zs) := by
 intro zs
 induction zs with
 | nil =>
  intro i m acc h hl
  have := at_end h
  refine Ev.step (fun k => by rw [impl_cloneGraph.l0]) ?_
  exact ev_neg (by omega) (ev_eq (Ev.now _) (by simp))
 | cons z zs ih =>
  intro i m acc h hl
  obtain ⟨hlt, hz, h2, _⟩ := at_drop h
  have hr : rd_L2 xs (i : Int) = z := getD_at hz
  have hm := hi z (List.mem_of_getElem? hz)
  refine Ev.step (fun k => by rw [impl_cloneGraph.l0]) ?_
  refine ev_pos (by omega) (ev_pos (by omega) (ev_pos (by omega) ?_))
  rw [hr, wrap_id (x := (i : Int) + 1) (by omega) (by omega)]
  refine ev_bind0 (cloneI_eq z hm) (ev_pos (by omega) ?_)
  refine ev_eq (ih (i + 1) m (acc ++ [z]) h2 (by first | (simp; done) | (simp; omega))) (by simp)
theorem cloneG_ev (n : Int) (xs : List (List Int)) (hn : xs.length ≤ 1048576) (hi : ∀ y ∈ xs, y.length ≤ 1048576) : Ev (fun k => impl_cloneGraph.f k n xs) (n, xs) := by
 unfold impl_cloneGraph.f
 simpa using cloneG_l0 n xs hn hi xs 0 n [] rfl rfl
/-- The claim n attacks each of these. -/
def newRows (n : Int) (cs : List Int) : List (List Int) := cs.map fun a => [n, a]
def inR (n a : Int) : Bool := decide (0 ≤ a ∧ a ≤ wrap64 (n - 1))
def withG (n : Int) (xs : List (List Int)) (cs : List Int) : Int × List (List Int) × Bool :=
 if isGraph n xs = true ∧ (cs.all (inR n)) = true ∧ isGraph (n + 1) (xs ++ newRows n cs) = true then (n + 1, xs ++ newRows n cs, true) else (n, xs, false)
theorem newRows_length (n : Int) (cs : List Int) : (newRows n cs).length = cs.length := by simp [newRows]
theorem rowsOk_tail {h : Int} : ∀ (xs ys : List (List Int)) (p : Option (List Int)), rowsOk h p (xs ++ ys) = true → ∃ q, rowsOk h q ys = true := by
 intro xs
 induction xs with
 | nil => intro ys p hp; exact ⟨p, hp⟩
 | cons x xs ih =>
  intro ys p hp
  rw [List.cons_append] at hp
  unfold rowsOk at hp
  simp only [Bool.and_eq_true] at hp
  exact ih ys _ hp.2.2
/-- Going up. -/
def upward : List Int → Bool
 | [] => true
 | [_] => true
 | a :: b :: r => decide (a < b) && upward (b :: r)
theorem newRows_up {h n : Int} : ∀ (cs : List Int) (q : Option (List Int)), rowsOk h q (newRows n cs) = true → upward cs = true := by
 intro cs
 induction cs with
 | nil => intro _ _; rfl
 | cons a cs ih =>
  intro q hq
  cases cs with
  | nil => rfl
  | cons b cs =>
   simp only [newRows, List.map_cons] at hq
   unfold rowsOk at hq
   simp only [Bool.and_eq_true] at hq
   have h2 := hq.2.2
   have h3 := ih (some [n, a]) (by simpa only [newRows, List.map_cons] using h2)
   unfold rowsOk at h2
   simp only [Bool.and_eq_true] at h2
   have h4 := of_decide_eq_true h2.2.1
   simp only [show rd [n, a] 0 = n from rfl, show rd [n, b] 0 = n from rfl, show rd [n, a] 1 = a from rfl, show rd [n, b] 1 = b from rfl] at h4
   unfold upward
   rw [h3, Bool.and_true]
   exact decide_eq_true (by omega)
theorem withG_up {n : Int} {xs : List (List Int)} {cs : List Int} (h : isGraph (n + 1) (xs ++ newRows n cs) = true) : upward cs = true := by
 unfold isGraph at h
 obtain ⟨q, hq⟩ := rowsOk_tail xs _ _ (Bool.and_eq_true_iff.1 h).2
 exact newRows_up cs q hq
theorem withS_l0 (n m : Int) (xs : List (List Int)) (cs : List Int) (hn : xs.length ≤ 1048576) (hi : ∀ y ∈ xs, y.length ≤ 1048576) (ha : cs.length ≤ 1048576) (hm : isGraph n xs = true → m = n + 1) : ∀ (zs : List Int) (i : Nat) (acc : List (List Int)), cs.drop i = zs → acc.length ≤ 1048576 + i → xs ++ newRows n cs = acc ++ newRows n zs → (cs.take i).all (inR n) = true → Ev (fun k => spec_WithClaim.l0 k cs (i : Int) n xs m acc) (withG n xs cs) := by
 intro zs
 induction zs with
 | nil =>
  intro i acc h hl he hall
  have := at_end h
  rw [List.take_of_length_le (by omega)] at hall
  have hacc : acc = xs ++ newRows n cs := by simpa [newRows] using he.symm
  subst hacc
  have hc := copyG_ev n xs hn hi
  have hel : (xs ++ newRows n cs).length ≤ 4611686018427387904 := by rw [List.length_append, newRows_length]; omega
  refine Ev.step (fun k => by rw [spec_WithClaim.l0]) ?_
  refine ev_neg (by omega) (Ev.bind (isGraph_spec n xs hn) (ev_ite (fun e => ?_) (fun e => ?_)))
  ·rw [hm e]
   refine Ev.bind (isGraph_specB (n + 1) (xs ++ newRows n cs) hel) (ev_ite (fun e2 => ev_eq (Ev.now _) ?_) (fun e2 => Ev.bind hc (ev_eq (Ev.now _) ?_)))
   ·unfold withG
    rw [if_pos ⟨e, hall, e2⟩]
   ·unfold withG
    rw [if_neg (fun z => e2 z.2.2)]
  ·refine Ev.bind hc (ev_eq (Ev.now _) ?_)
   unfold withG
   rw [if_neg (fun z => e z.1)]
 | cons z zs ih =>
  intro i acc h hl he hall
  obtain ⟨hlt, hz, h2, _⟩ := at_drop h
  have hr : rd cs (i : Int) = z := rd_get hz
  refine Ev.step (fun k => by rw [spec_WithClaim.l0]) ?_
  refine ev_pos (by omega) (ev_pos (by omega) ?_)
  rw [hr, wrap_id (x := (i : Int) + 1) (by omega) (by omega)]
  refine ev_bind0 (l1In_eq _ _ _) (ev_ite (fun e => ev_pos (by omega) ?_) (fun e => Ev.bind (copyG_ev n xs hn hi) (ev_eq (Ev.now _) ?_)))
  ·refine ih (i + 1) (acc ++ [[n, z]]) h2 (by first | (simp; done) | (simp; omega)) (by rw [he]; simp [newRows]) ?_
   rw [take_at hz, List.all_append, hall]
   simpa [inR] using e
  ·unfold withG
   rw [if_neg (fun y => ?_)]
   have := List.all_eq_true.1 y.2.1 z (List.mem_of_getElem? hz)
   exact e (by simpa [inR] using this)
theorem withClaim_spec (n : Int) (xs : List (List Int)) (cs : List Int) (hn : xs.length ≤ 1048576) (hi : ∀ y ∈ xs, y.length ≤ 1048576) (ha : cs.length ≤ 1048576) : Ev (fun k => spec_WithClaim.f k n xs cs) (withG n xs cs) := by
 unfold spec_WithClaim.f spec_Min.f
 refine Ev.bind (copyG_ev n xs hn hi) ?_
 dsimp only
 have go : ∀ t : Int, (isGraph n xs = true → wrap64 (t + 1) = n + 1) → Ev (fun k => spec_WithClaim.l0 k cs 0 n xs (wrap64 (t + 1)) xs) (withG n xs cs) := fun t ht => withS_l0 n _ xs cs hn hi ha ht cs 0 xs rfl (by omega) rfl (by simp)
 refine ev_bind0 (a := if n < 100 then n else 100) (by split <;> rfl) (go _ (fun hg => ?_))
 have := isGraph_n hg
 rw [if_pos (by omega), wrap_id (by omega) (by omega)]
def isSet (n : Int) (xs : List (List Int)) (cs : List Int) : Bool := isGraph n xs && (cs.all (inR n) && upward cs)
theorem isSet_l0 (n : Int) (xs : List (List Int)) (cs : List Int) (ha : cs.length ≤ 1048576) : ∀ (zs : List Int) (i : Nat), cs.drop i = zs → Ev (fun k => impl_IsSet.l0 k cs cs (cs.length : Int) (i : Int) n xs) (zs.all (inR n) && upward (if i = 0 then zs else rd cs ((i : Int) - 1) :: zs)) := by
 intro zs
 induction zs with
 | nil =>
  intro i h
  have := at_end h
  refine Ev.step (fun k => by rw [impl_IsSet.l0]) (ev_neg (by omega) (ev_eq (Ev.now _) ?_))
  split <;> rfl
 | cons z zs ih =>
  intro i h
  obtain ⟨hlt, hz, h2, _⟩ := at_drop h
  have hr : rd cs (i : Int) = z := rd_get hz
  have hi1 : Ev (fun k => impl_IsSet.l0 k cs cs (cs.length : Int) (wrap64 ((i : Int) + 1)) n xs) (zs.all (inR n) && upward (z :: zs)) := by
   rw [wrap_id (x := (i : Int) + 1) (by omega) (by omega)]
   have := ih (i + 1) h2
   rw [if_neg (by omega), show ((i + 1 : Nat) : Int) - 1 = (i : Int) by omega, hr] at this
   exact this
  refine Ev.step (fun k => by rw [impl_IsSet.l0]) ?_
  refine ev_pos (by omega) (ev_pos (by omega) (ev_pos (by omega) ?_))
  rw [hr]
  refine ev_bind0 (isClaim_eq _ _ _) (ev_ite (fun e => ?_) (fun e => ev_eq (Ev.now _) ?_))
  ·have hz1 : inR n z = true := e
   by_cases h0 : i = 0
   ·subst h0
    refine ev_neg (by omega) (ev_eq hi1 ?_)
    rw [if_pos rfl, List.all_cons, hz1, Bool.true_and]
   ·rw [wrap_id (x := (i : Int) - 1) (by omega) (by omega)]
    refine ev_pos (by omega) (ev_pos (by omega) (ev_pos (by omega) (ev_ite (fun e2 => ev_eq (Ev.now _) ?_) (fun e2 => ev_eq hi1 ?_))))
    ·rw [if_neg h0, show upward (rd cs ((i : Int) - 1) :: z :: zs) = (decide (rd cs ((i : Int) - 1) < z) && upward (z :: zs)) from rfl, decide_eq_false (by omega), Bool.false_and, Bool.and_false]
    ·rw [if_neg h0, show upward (rd cs ((i : Int) - 1) :: z :: zs) = (decide (rd cs ((i : Int) - 1) < z) && upward (z :: zs)) from rfl, decide_eq_true (by omega), Bool.true_and, List.all_cons, hz1, Bool.true_and]
  ·have hz1 : inR n z = false := by simpa [inR] using e
   rw [List.all_cons, hz1, Bool.false_and, Bool.false_and]
theorem isSet_ev (n : Int) (xs : List (List Int)) (cs : List Int) (hn : xs.length ≤ 1048576) (ha : cs.length ≤ 1048576) : Ev (fun k => impl_IsSet.f k n xs cs) (isSet n xs cs) := by
 unfold impl_IsSet.f isSet
 refine Ev.bind (isGraph_impl n xs hn) (ev_ite (fun e => ?_) (fun e => ev_eq (Ev.now _) ?_))
 ·rw [e, Bool.true_and]
  exact isSet_l0 n xs cs ha cs 0 rfl
 ·rw [show isGraph n xs = false by simpa using e, Bool.false_and]
theorem withI_l0 (n m : Int) (xs : List (List Int)) (cs : List Int) (hn : xs.length ≤ 1048576) (hi : ∀ y ∈ xs, y.length ≤ 1048576) (ha : cs.length ≤ 1048576) (hs : isSet n xs cs = true) (hm : m = n + 1) : ∀ (zs : List Int) (i : Nat) (acc : List (List Int)), cs.drop i = zs → acc.length ≤ 1048576 + i → xs ++ newRows n cs = acc ++ newRows n zs → Ev (fun k => impl_WithClaim.l0 k cs (cs.length : Int) (i : Int) n xs m acc) (withG n xs cs) := by
 intro zs
 induction zs with
 | nil =>
  intro i acc h hl he
  have := at_end h
  have hacc : acc = xs ++ newRows n cs := by simpa [newRows] using he.symm
  subst hacc
  subst hm
  unfold isSet at hs
  simp only [Bool.and_eq_true] at hs
  have hel : (xs ++ newRows n cs).length ≤ 4611686018427387904 := by rw [List.length_append, newRows_length]; omega
  refine Ev.step (fun k => by rw [impl_WithClaim.l0]) ?_
  refine ev_neg (by omega) (Ev.bind (isGraph_implB (n + 1) _ hel) (ev_ite (fun e2 => ev_eq (Ev.now _) ?_) (fun e2 => Ev.bind (cloneG_ev n xs hn hi) (ev_eq (Ev.now _) ?_))))
  ·unfold withG
   rw [if_pos ⟨hs.1, hs.2.1, e2⟩]
  ·unfold withG
   rw [if_neg (fun z => e2 z.2.2)]
 | cons z zs ih =>
  intro i acc h hl he
  obtain ⟨hlt, hz, h2, _⟩ := at_drop h
  have hr : rd cs (i : Int) = z := rd_get hz
  refine Ev.step (fun k => by rw [impl_WithClaim.l0]) ?_
  refine ev_pos (by omega) (ev_pos (by omega) (ev_pos (by omega) (ev_pos (by omega) ?_)))
  rw [hr, wrap_id (x := (i : Int) + 1) (by omega) (by omega)]
  exact ih (i + 1) (acc ++ [[n, z]]) h2 (by first | (simp; done) | (simp; omega)) (by rw [he]; simp [newRows])
theorem withClaim_impl (n : Int) (xs : List (List Int)) (cs : List Int) (hn : xs.length ≤ 1048576) (hi : ∀ y ∈ xs, y.length ≤ 1048576) (ha : cs.length ≤ 1048576) : Ev (fun k => impl_WithClaim.f k n xs cs) (withG n xs cs) := by
 unfold impl_WithClaim.f
 refine Ev.bind (isSet_ev n xs cs hn ha) (ev_ite (fun e => ?_) (fun e => ?_))
 ·refine Ev.bind (cloneG_ev n xs hn hi) ?_
  have hg : isGraph n xs = true := by unfold isSet at e; exact (Bool.and_eq_true_iff.1 e).1
  have := isGraph_n hg
  exact withI_l0 n _ xs cs hn hi ha e (wrap_id (by omega) (by omega)) cs 0 xs rfl (by omega) rfl
 ·refine Ev.bind (cloneG_ev n xs hn hi) (ev_eq (Ev.now _) ?_)
  unfold withG
  rw [if_neg (fun z => e ?_)]
  unfold isSet
  rw [z.1, z.2.1, withG_up z.2.2]
  rfl
theorem withG_size (n : Int) (xs : List (List Int)) (cs : List Int) (hn : xs.length ≤ 1048576) (hi : ∀ y ∈ xs, y.length ≤ 1048576) (ha : cs.length ≤ 1048576) : (withG n xs cs).2.1.length ≤ 2097152 ∧ ∀ y ∈ (withG n xs cs).2.1, y.length ≤ 1048576 := by
 unfold withG
 split
 ·refine ⟨?_, fun y hy => ?_⟩
  ·show (xs ++ newRows n cs).length ≤ 2097152
   rw [List.length_append, newRows_length]
   omega
  ·rcases List.mem_append.1 (show y ∈ xs ++ newRows n cs from hy) with h | h
   ·exact hi y h
   ·obtain ⟨a, _, rfl⟩ := List.mem_map.1 h
    show 2 ≤ 1048576
    omega
 ·exact ⟨Nat.le_trans hn (by omega), hi⟩

def lessC (c a : Int) : Int := if a > c then a - 1 else a
def aside (c : Int) (r : List Int) : Bool := decide (rd r 0 = c ∨ rd r 1 = c)
def dropRows (c : Int) : List (List Int) → List (List Int)
 | [] => []
 | r :: rs => if aside c r then dropRows c rs else [lessC c (rd r 0), lessC c (rd r 1)] :: dropRows c rs
theorem dropRows_cons (c : Int) (r : List Int) (rs : List (List Int)) : dropRows c (r :: rs) = if aside c r then dropRows c rs else [lessC c (rd r 0), lessC c (rd r 1)] :: dropRows c rs := rfl
def withoutG (n : Int) (xs : List (List Int)) (c : Int) : Int × List (List Int) × Bool :=
 if isGraph n xs = true ∧ (0 ≤ c ∧ c ≤ wrap64 (n - 1)) then (wrap64 (n - 1), dropRows c xs, true) else (n, xs, false)
theorem two {r : List Int} (h : r.length = 2) : r = [rd r 0, rd r 1] := by
 match r, h with
 | [a, b], _ => rfl
theorem withoutI_l1 (c m : Int) (xs : List (List Int)) (len i31 : Int) (acc : List (List Int)) (ha : acc.length < 5864062014805) (hi31 : wrap64 (i31 + 1) = i31 + 1) (R : Int × List (List Int) × Bool) : ∀ (zs done : List Int) (i : Nat), done.length = i → (∀ z ∈ zs, 0 ≤ z ∧ z ≤ 10) → (done ++ zs).length ≤ 1048576 → Ev (fun k => impl_Without.l0 k c xs len (i31 + 1) m (acc ++ [done ++ zs.map (lessC c)])) R → Ev (fun k => impl_Without.l1 k c (done ++ zs) xs len i31 ((done ++ zs).length : Int) (i : Int) m acc) R := by
 intro zs
 induction zs with
 | nil =>
  intro done i hl hz hlen hR
  refine Ev.step (fun k => by rw [impl_Without.l1]) ?_
  refine ev_neg (by first | (simp; done) | (simp; omega)) (ev_pos ha ?_)
  rw [hi31]
  simpa using hR
 | cons z zs ih =>
  intro done i hl hz hlen hR
  have hz0 := hz z (List.mem_cons_self ..)
  have hln : (done ++ z :: zs).length = i + 1 + zs.length := by simp; omega
  have hg : rd (done ++ z :: zs) (i : Int) = z := rd_get (by rw [List.getElem?_append_right (by omega), hl, Nat.sub_self]; rfl)
  refine Ev.step (fun k => by rw [impl_Without.l1]) ?_
  refine ev_pos (by omega) (ev_pos (by omega) (ev_pos (by omega) ?_))
  rw [hg, wrap_id (x := (i : Int) + 1) (by omega) (by omega)]
  have next : ∀ y : Int, y = lessC c z → Ev (fun k => impl_Without.l1 k c (done ++ y :: zs) xs len i31 ((done ++ z :: zs).length : Int) ((i : Int) + 1) m acc) R := by
   intro y hy
   have h1 := ih (done ++ [y]) (i + 1) (by first | (simp; done) | (simp; omega)) (fun x hx => hz x (List.mem_cons_of_mem _ hx)) (by rw [List.append_assoc, List.singleton_append, List.length_append, List.length_cons]; rw [List.length_append, List.length_cons] at hlen; exact hlen) (by rw [hy, List.append_assoc, List.singleton_append]; simpa using hR)
   rw [List.append_assoc, List.singleton_append] at h1
   rw [show ((done ++ z :: zs).length : Int) = ((done ++ y :: zs).length : Int) by simp]
   exact h1
  refine ev_ite (fun e => ?_) (fun e => next z ?_)
  ·have hs : (done ++ z :: zs).set (i : Int).toNat (wrap64 (z - 1)) = done ++ wrap64 (z - 1) :: zs := by
    rw [Int.toNat_natCast, List.set_append_right _ _ (by omega), hl, Nat.sub_self]
    rfl
   rw [hs]
   refine next _ ?_
   unfold lessC
   rw [if_pos e, wrap_id (by omega) (by omega)]
  ·unfold lessC
   rw [if_neg e]
theorem withoutI_l0 (n m c : Int) (xs : List (List Int)) (hg : isGraph n xs = true) (hn : xs.length ≤ 1048576) : ∀ (zs : List (List Int)) (i : Nat) (acc : List (List Int)), xs.drop i = zs → acc.length ≤ i → Ev (fun k => impl_Without.l0 k c xs (xs.length : Int) (i : Int) m acc) (m, acc ++ dropRows c zs, true) := by
 have hb := isGraph_n hg
 intro zs
 induction zs with
 | nil =>
  intro i acc h hl
  have := at_end h
  refine Ev.step (fun k => by rw [impl_Without.l0]) ?_
  exact ev_neg (by omega) (ev_eq (Ev.now _) (by simp [dropRows]))
 | cons z zs ih =>
  intro i acc h hl
  obtain ⟨hlt, hz, h2, _⟩ := at_drop h
  have hr : rd_L2 xs (i : Int) = z := getD_at hz
  obtain ⟨hlen, h0, h0n, h1, h1n⟩ := isGraph_row hg (List.mem_of_getElem? hz)
  have hw : wrap64 ((i : Int) + 1) = (i : Int) + 1 := wrap_id (by omega) (by omega)
  have h2z := two hlen
  refine Ev.step (fun k => by rw [impl_Without.l0]) ?_
  refine ev_pos (by omega) (ev_pos (by omega) (ev_pos (by omega) ?_))
  rw [hr]
  have hmem : decide (c ∈ z) = aside c z := by
   unfold aside
   rw [decide_eq_decide]
   rw [h2z]
   simp only [List.mem_cons, List.not_mem_nil, or_false, show rd [rd z 0, rd z 1] 0 = rd z 0 from rfl, show rd [rd z 0, rd z 1] 1 = rd z 1 from rfl]
   constructor
   ·rintro (e | e)
    ·exact .inl e.symm
    ·exact .inr e.symm
   ·rintro (e | e)
    ·exact .inl e.symm
    ·exact .inr e.symm
  refine Ev.bind (containsInt_ev z c (by omega)) ?_
  rw [hmem]
  refine ev_ite (fun e => ?_) (fun e => ?_)
  ·rw [hw]
   refine ev_eq (ih (i + 1) acc h2 (by omega)) ?_
   rw [show dropRows c (z :: zs) = dropRows c zs by rw [dropRows_cons, e]; rfl]
  ·have ha : aside c z = false := by simpa using e
   refine ev_bind0 (cloneI_eq z (by omega)) ?_
   have hmap : z.map (lessC c) = [lessC c (rd z 0), lessC c (rd z 1)] := by
    rw [h2z]
    rfl
   refine withoutI_l1 c m xs _ (i : Int) acc (by omega) hw _ z [] 0 rfl (fun y hy => ?_) (by first | (simp; done) | (simp; omega)) ?_
   ·rw [h2z] at hy
    rcases List.mem_cons.1 hy with rfl | hy
    ·omega
    ·rcases List.mem_cons.1 hy with rfl | hy
     ·omega
     ·exact absurd hy (by simp)
   ·rw [List.nil_append, hmap]
    refine ev_eq (ih (i + 1) _ h2 (by first | (simp; done) | (simp; omega))) ?_
    rw [dropRows_cons, ha]
    simp
theorem without_impl (n : Int) (xs : List (List Int)) (c : Int) (hn : xs.length ≤ 1048576) (hi : ∀ y ∈ xs, y.length ≤ 1048576) : Ev (fun k => impl_Without.f k n xs c) (withoutG n xs c) := by
 have hc := cloneG_ev n xs hn hi
 have out : ¬ (isGraph n xs = true ∧ (0 ≤ c ∧ c ≤ wrap64 (n - 1))) → Ev (fun k => impl_Without.j0 k c true n xs) (withoutG n xs c) := by
  intro h
  refine Ev.step (fun k => by rw [impl_Without.j0]) (ev_pos rfl (Ev.bind hc (ev_eq (Ev.now _) ?_)))
  unfold withoutG
  rw [if_neg h]
 unfold impl_Without.f
 refine Ev.bind (isGraph_impl n xs hn) (ev_ite (fun e => ev_bind0 (isClaim_eq _ _ _) ?_) (fun e => out (fun h => e h.1)))
 by_cases hin : 0 ≤ c ∧ c ≤ wrap64 (n - 1)
 ·rw [decide_eq_true hin]
  refine Ev.step (fun k => by rw [impl_Without.j0]) (ev_neg (by decide) ?_)
  refine ev_eq (withoutI_l0 n _ c xs e hn xs 0 [] rfl (by simp)) ?_
  unfold withoutG
  rw [if_pos ⟨e, hin⟩]
  simp
 ·rw [decide_eq_false hin]
  exact out (fun h => hin h.2)

theorem lexLt_trans {a b c : List Int} (h1 : lexLt a b = true) (h2 : lexLt b c = true) : lexLt a c = true := by
 unfold lexLt at h1 h2 ⊢
 rw [decide_eq_true_eq] at h1 h2 ⊢
 omega
theorem lexLt_irrefl (a : List Int) : ¬ lexLt a a = true := by
 unfold lexLt
 rw [decide_eq_true_eq]
 omega
theorem rowsOk_parts {h : Int} : ∀ (rs : List (List Int)) (q : Option (List Int)), rowsOk h q rs = true → rs.Pairwise (fun a b => lexLt a b = true) ∧ ∀ x, q = some x → ∀ r ∈ rs, lexLt x r = true := by
 intro rs
 induction rs with
 | nil => exact fun q _ => ⟨List.Pairwise.nil, fun _ _ r hr => absurd hr (by simp)⟩
 | cons z zs ih =>
  intro q hq
  unfold rowsOk at hq
  rw [Bool.and_eq_true, Bool.and_eq_true] at hq
  obtain ⟨_, h2, h3⟩ := hq
  obtain ⟨i1, i2⟩ := ih _ h3
  refine ⟨List.pairwise_cons.2 ⟨i2 z rfl, i1⟩, fun x hx r hr => ?_⟩
  subst hx
  rcases List.mem_cons.1 hr with rfl | hr
  ·exact h2
  ·exact lexLt_trans h2 (i2 z rfl r hr)
theorem rowsOk_mk {h : Int} : ∀ (rs : List (List Int)) (q : Option (List Int)), (∀ r ∈ rs, rowOk h r = true) → rs.Pairwise (fun a b => lexLt a b = true) → (∀ x, q = some x → ∀ r ∈ rs, lexLt x r = true) → rowsOk h q rs = true := by
 intro rs
 induction rs with
 | nil => exact fun q _ _ _ => by unfold rowsOk; rfl
 | cons z zs ih =>
  intro q h1 h2 h3
  obtain ⟨p1, p2⟩ := List.pairwise_cons.1 h2
  unfold rowsOk
  rw [Bool.and_eq_true, Bool.and_eq_true]
  refine ⟨h1 z List.mem_cons_self, ?_, ih (some z) (fun r hr => h1 r (List.mem_cons_of_mem _ hr)) p2 (fun x hx r hr => by obtain rfl := Option.some.inj hx; exact p1 r hr)⟩
  cases q with
  | none => rfl
  | some x => exact h3 x rfl z List.mem_cons_self
def insR (p : List Int) : List (List Int) → List (List Int)
 | [] => [p]
 | z :: zs => if lexLt p z = true then p :: z :: zs else z :: insR p zs
theorem insR_perm (p : List Int) : ∀ zs : List (List Int), (insR p zs).Perm (p :: zs) := by
 intro zs
 induction zs with
 | nil => exact List.Perm.refl _
 | cons z zs ih =>
  unfold insR
  split
  ·exact List.Perm.refl _
  ·exact (List.Perm.cons z ih).trans (List.Perm.swap p z zs)
theorem lexLt_other {p z : List Int} (hp : p.length = 2) (hz : z.length = 2) (hne : z ≠ p) (h : ¬ lexLt p z = true) : lexLt z p = true := by
 unfold lexLt at h ⊢
 rw [decide_eq_true_eq] at h ⊢
 by_cases e : rd z 0 = rd p 0 ∧ rd z 1 = rd p 1
 ·refine absurd ?_ hne
  rw [two_of hp, two_of hz, e.1, e.2]
 ·omega
theorem insR_up (p : List Int) (hp : p.length = 2) : ∀ zs : List (List Int), zs.Pairwise (fun a b => lexLt a b = true) → (∀ z ∈ zs, z.length = 2 ∧ z ≠ p) → (insR p zs).Pairwise (fun a b => lexLt a b = true) := by
 intro zs
 induction zs with
 | nil => exact fun _ _ => List.pairwise_singleton _ _
 | cons z zs ih =>
  intro h1 h2
  obtain ⟨p1, p2⟩ := List.pairwise_cons.1 h1
  obtain ⟨z1, z2⟩ := h2 z List.mem_cons_self
  unfold insR
  split
  ·rename_i e
   refine List.pairwise_cons.2 ⟨fun r hr => ?_, h1⟩
   rcases List.mem_cons.1 hr with rfl | hr
   ·exact e
   ·exact lexLt_trans e (p1 r hr)
  ·rename_i e
   refine List.pairwise_cons.2 ⟨fun r hr => ?_, ih p2 (fun x hx => h2 x (List.mem_cons_of_mem _ hx))⟩
   rcases List.mem_cons.1 ((insR_perm p zs).mem_iff.1 hr) with rfl | hr
   ·exact lexLt_other hp z1 z2 e
   ·exact p1 r hr
theorem graph_nodup {n : Int} {xs : List (List Int)} (hg : isGraph n xs = true) : xs.Pairwise (fun a b => lexLt a b = true) := by
 unfold isGraph at hg
 exact (rowsOk_parts xs none (Bool.and_eq_true_iff.1 hg).2).1
/-- One more pair in its place. -/
theorem graph_ins {n : Int} {T : List (List Int)} (hg : isGraph n T = true) {x y : Int} (hx : inR n x = true) (hy : inR n y = true) (hne : [x, y] ∉ T) : isGraph n (insR [x, y] T) = true := by
 have hn := isGraph_n hg
 have hx := of_decide_eq_true hx
 have hy := of_decide_eq_true hy
 have hrow : ∀ r ∈ T, rowOk (wrap64 (n - 1)) r = true := by
  have h := hg
  unfold isGraph at h
  exact rowsOk_mem T none (Bool.and_eq_true_iff.1 h).2
 unfold isGraph
 rw [Bool.and_eq_true, decide_eq_true_eq]
 refine ⟨hn, rowsOk_mk _ none (fun r hr => ?_) (insR_up [x, y] rfl T (graph_nodup hg) (fun z hz => ⟨(isGraph_row hg hz).1, fun e => hne (e ▸ hz)⟩)) (fun x hx => by cases hx)⟩
 rcases List.mem_cons.1 ((insR_perm [x, y] T).mem_iff.1 hr) with rfl | hr
 ·exact decide_eq_true ⟨rfl, hx.1, hx.2, hy.1, hy.2⟩
 ·exact hrow r hr
theorem lt_pair (a b c d : Int) : ([a, b] : List Int) < [c, d] ↔ a < c ∨ a = c ∧ b < d := by
 rw [List.cons_lt_cons_iff, List.cons_lt_cons_iff]
 simp
theorem lexLt_lt {a b : List Int} (ha : a.length = 2) (hb : b.length = 2) : a < b ↔ lexLt a b = true := by
 unfold lexLt
 rw [decide_eq_true_eq, ← lt_pair, ← two_of ha, ← two_of hb]
theorem cmpR_pair (a b c d : Int) : cmpR [a, b] [c, d] = if a < c then -1 else if a > c then 1 else if b < d then -1 else if b > d then 1 else 0 := by
 unfold cmpR
 simp only [lt_pair]
 by_cases h1 : a < c
 ·rw [if_pos (.inl h1), if_pos h1]
 ·rw [if_neg h1]
  by_cases h2 : a > c
  ·rw [if_neg (by omega), if_pos (by omega), if_pos h2]
  ·rw [if_neg h2]
   by_cases h3 : b < d
   ·rw [if_pos (by omega), if_pos h3]
   ·rw [if_neg h3, if_neg (by omega)]
    by_cases h4 : b > d
    ·rw [if_pos (by omega), if_pos h4]
    ·rw [if_neg (by omega), if_neg h4]
theorem ev_all {α : Type} {β : Type} (g : Nat → α → Option β) (c : α → β) : ∀ l : List α, (∀ x ∈ l, Ev (fun k => g k x) (c x)) → ∃ K, ∀ k, K ≤ k → ∀ x ∈ l, g k x = some (c x) := by
 intro l
 induction l with
 | nil => exact fun _ => ⟨0, fun _ _ x hx => absurd hx (by simp)⟩
 | cons z zs ih =>
  intro h
  obtain ⟨K1, h1⟩ := h z List.mem_cons_self
  obtain ⟨K2, h2⟩ := ih (fun x hx => h x (List.mem_cons_of_mem _ hx))
  refine ⟨max K1 K2, fun k hk x hx => ?_⟩
  rcases List.mem_cons.1 hx with rfl | hx
  ·exact h1 k (by omega)
  ·exact h2 k (by omega) x hx
theorem cmpAll_ev (M : List (List Int)) (h2 : ∀ r ∈ M, r.length = 2) : ∃ K, ∀ k, K ≤ k → ∀ x ∈ M, ∀ y ∈ M, slices_Compare_int_int.f k x y = some (cmpR x y) := by
 have h1 : ∀ x ∈ M, ∃ K, ∀ k, K ≤ k → ∀ y ∈ M, slices_Compare_int_int.f k x y = some (cmpR x y) := fun x hx => ev_all (fun k y => slices_Compare_int_int.f k x y) (fun y => cmpR x y) M (fun y hy => by
  have := compare2 (rd x 0) (rd x 1) (rd y 0) (rd y 1)
  rw [← cmpR_pair, ← two_of (h2 x hx), ← two_of (h2 y hy)] at this
  exact this)
 have h3 : ∀ l : List (List Int), (∀ x ∈ l, x ∈ M) → ∃ K, ∀ k, K ≤ k → ∀ x ∈ l, ∀ y ∈ M, slices_Compare_int_int.f k x y = some (cmpR x y) := by
  intro l
  induction l with
  | nil => exact fun _ => ⟨0, fun _ _ x hx => absurd hx (by simp)⟩
  | cons z zs ih =>
   intro hl
   obtain ⟨K1, e1⟩ := h1 z (hl z List.mem_cons_self)
   obtain ⟨K2, e2⟩ := ih (fun x hx => hl x (List.mem_cons_of_mem _ hx))
   refine ⟨max K1 K2, fun k hk x hx => ?_⟩
   rcases List.mem_cons.1 hx with rfl | hx
   ·exact e1 k (by omega)
   ·exact e2 k (by omega) x hx
 exact h3 M (fun _ h => h)
/-- What goes up and holds the same rows is the sorted row. -/
theorem up_sorted (T M : List (List Int)) (hT : T.Pairwise (fun a b => lexLt a b = true)) (h2 : ∀ r ∈ M, r.length = 2) (hp : T.Perm M) : T = sortR M := by
 have h1 : T.Perm (sortR M) := hp.trans (List.mergeSort_perm M _).symm
 refine List.Perm.eq_of_pairwise (le := fun x y => ¬ y < x) ?_ ?_ ?_ h1
 ·intro a b _ _ hab hba
  exact List.le_antisymm hab hba
 ·refine List.Pairwise.imp_of_mem (fun {a b} ha hb h => ?_) hT
  have la := h2 a (hp.mem_iff.1 ha)
  have lb := h2 b (hp.mem_iff.1 hb)
  intro hba
  exact lexLt_irrefl a (lexLt_trans h ((lexLt_lt lb la).1 hba))
 ·have := List.pairwise_mergeSort (le := fun x y : List Int => decide (¬ y < x)) (fun a b c h1 h2 => by
   rw [decide_eq_true_eq] at h1 h2 ⊢
   exact List.le_trans h1 h2) (fun a b => by
   rw [Bool.or_eq_true, decide_eq_true_eq, decide_eq_true_eq]
   exact List.le_total a b) M
  exact List.Pairwise.imp (fun {a b} h => of_decide_eq_true h) this
def renRow (cs : List Int) (r : List Int) : List Int := [rd cs (rd r 0), rd cs (rd r 1)]
def renOk (n : Int) (xs : List (List Int)) (cs : List Int) : Prop := isGraph n xs = true ∧ (cs.length : Int) = n ∧ cs.all (inR n) = true ∧ cs.Nodup
instance (n : Int) (xs : List (List Int)) (cs : List Int) : Decidable (renOk n xs cs) := by unfold renOk; infer_instance
def renG (n : Int) (xs : List (List Int)) (cs : List Int) : Int × List (List Int) × Bool := if renOk n xs cs then (n, sortR (xs.map (renRow cs)), true) else (n, xs, false)
theorem rd_inj {cs : List Int} (hd : cs.Nodup) {a b : Int} (a0 : 0 ≤ a) (a1 : a < cs.length) (b0 : 0 ≤ b) (b1 : b < cs.length) (h : rd cs a = rd cs b) : a = b := by
 obtain ⟨i, rfl⟩ : ∃ i : Nat, a = (i : Int) := ⟨a.toNat, by omega⟩
 obtain ⟨j, rfl⟩ : ∃ j : Nat, b = (j : Int) := ⟨b.toNat, by omega⟩
 rw [rd_nat cs i (by omega), rd_nat cs j (by omega)] at h
 have hp := List.pairwise_iff_getElem.1 hd
 rcases Nat.lt_trichotomy i j with hl | rfl | hl
 ·exact absurd h (hp i j (by omega) (by omega) hl)
 ·rfl
 ·exact absurd h.symm (hp j i (by omega) (by omega) hl)
theorem renRow_inj {n : Int} {xs : List (List Int)} {cs : List Int} (hg : isGraph n xs = true) (hc : (cs.length : Int) = n) (hd : cs.Nodup) {r s : List Int} (hr : r ∈ xs) (hs : s ∈ xs) (h : renRow cs r = renRow cs s) : r = s := by
 obtain ⟨r1, r2, r3, r4, r5⟩ := isGraph_row hg hr
 obtain ⟨s1, s2, s3, s4, s5⟩ := isGraph_row hg hs
 unfold renRow at h
 injection h with h1 h2
 injection h2 with h2 _
 rw [two_of r1, two_of s1, rd_inj hd r2 (by omega) s2 (by omega) h1, rd_inj hd r4 (by omega) s4 (by omega) h2]
theorem rd_inR {n : Int} {cs : List Int} (hall : cs.all (inR n) = true) {a : Int} (a0 : 0 ≤ a) (a1 : a < cs.length) : inR n (rd cs a) = true := by
 obtain ⟨i, rfl⟩ : ∃ i : Nat, a = (i : Int) := ⟨a.toNat, by omega⟩
 rw [rd_nat cs i (by omega)]
 exact List.all_eq_true.1 hall _ (List.getElem_mem _)
theorem addS_done (n x y : Int) (S T : List (List Int)) (hg : isGraph n S = true) (hn : S.length ≤ 1048576) (R : Int × List (List Int) × Bool) (hR : Ev (fun k => spec_AddAttack.j4 k n S n T) R) : ∀ (zs : List (List Int)) (i : Nat) (acc : List (List Int)), S.drop i = zs → acc.length ≤ i + 1 → acc ++ zs = T → Ev (fun k => spec_AddAttack.l0 k x y true (i : Int) n S n acc) R := by
 intro zs
 induction zs with
 | nil =>
  intro i acc h hl he
  have := at_end h
  rw [List.append_nil] at he
  subst he
  refine Ev.step (fun k => by rw [spec_AddAttack.l0]) (ev_neg (by omega) (Ev.step (fun k => by rw [spec_AddAttack.j1]) ?_))
  exact ev_neg (by decide) (ev_pos rfl hR)
 | cons z zs ih =>
  intro i acc h hl he
  obtain ⟨hlt, hz, h2, _⟩ := at_drop h
  have hr : rd_L2 S (i : Int) = z := getD_at hz
  have hlen := (isGraph_row hg (List.mem_of_getElem? hz)).1
  refine Ev.step (fun k => by rw [spec_AddAttack.l0]) (ev_pos (by omega) (Ev.bind (isGraph_spec n S hn) ?_))
  rw [hg]
  refine Ev.step (fun k => by rw [spec_AddAttack.j1]) (ev_pos rfl (ev_pos (by omega) (ev_pos (by omega) (ev_pos rfl (Ev.step (fun k => by rw [spec_AddAttack.j2]) (ev_neg (by decide) (Ev.step (fun k => by rw [spec_AddAttack.j3]) (ev_bind0 (a := ([] : List Int)) rfl ?_))))))))
  rw [hr, wrap_id (by omega) (by omega)]
  refine ev_pos (by simp only [List.length_nil]; omega) (ev_pos (by omega) ?_)
  exact ih (i + 1) (acc ++ [[] ++ z]) h2 (by rw [List.length_append, List.length_singleton]; omega) (by rw [List.nil_append, List.append_assoc]; exact he)
theorem addS_l0 (n x y : Int) (S : List (List Int)) (hg : isGraph n S = true) (hn : S.length ≤ 1048576) (R : Int × List (List Int) × Bool) (hR : Ev (fun k => spec_AddAttack.j4 k n S n (insR [x, y] S)) R) : ∀ (zs : List (List Int)) (i : Nat) (acc : List (List Int)), S.drop i = zs → acc.length ≤ i → acc ++ insR [x, y] zs = insR [x, y] S → Ev (fun k => spec_AddAttack.l0 k x y false (i : Int) n S n acc) R := by
 intro zs
 induction zs with
 | nil =>
  intro i acc h hl he
  have := at_end h
  refine Ev.step (fun k => by rw [spec_AddAttack.l0]) (ev_neg (by omega) (Ev.step (fun k => by rw [spec_AddAttack.j1]) ?_))
  refine ev_neg (by decide) (ev_neg (by decide) ?_)
  have hla : acc.length ≤ 1048577 := by
   have h3 := congrArg List.length he
   rw [List.length_append, (insR_perm [x, y] S).length_eq, List.length_cons] at h3
   omega
  refine ev_pos (by omega) ?_
  rw [show acc ++ [[x, y]] = insR [x, y] S from he]
  exact hR
 | cons z zs ih =>
  intro i acc h hl he
  obtain ⟨hlt, hz, h2, _⟩ := at_drop h
  have hr : rd_L2 S (i : Int) = z := getD_at hz
  have hlen := (isGraph_row hg (List.mem_of_getElem? hz)).1
  refine Ev.step (fun k => by rw [spec_AddAttack.l0]) (ev_pos (by omega) (Ev.bind (isGraph_spec n S hn) ?_))
  rw [hg]
  refine Ev.step (fun k => by rw [spec_AddAttack.j1]) (ev_pos rfl (ev_pos (by omega) (ev_pos (by omega) (ev_neg (by decide) ?_))))
  rw [hr]
  have hw : wrap64 ((i : Int) + 1) = (i : Int) + 1 := wrap_id (by omega) (by omega)
  have before : lexLt [x, y] z = true → Ev (fun k => spec_AddAttack.j2 k x y false (i : Int) z true n S n acc) R := by
   intro e
   refine Ev.step (fun k => by rw [spec_AddAttack.j2]) (ev_pos rfl (ev_pos (by omega) (Ev.step (fun k => by rw [spec_AddAttack.j3]) ?_)))
   rw [hw]
   refine ev_bind0 rfl (ev_pos (by simp only [List.length_nil]; omega) (ev_pos (by rw [List.length_append, List.length_singleton]; omega) ?_))
   refine addS_done n x y S (insR [x, y] S) hg hn R hR zs (i + 1) _ h2 (by rw [List.length_append, List.length_append, List.length_singleton, List.length_singleton]; omega) ?_
   rw [← he]
   unfold insR
   rw [if_pos e, List.nil_append, List.append_assoc, List.append_assoc]
   rfl
  have behind : ¬ lexLt [x, y] z = true → Ev (fun k => spec_AddAttack.j2 k x y false (i : Int) z false n S n acc) R := by
   intro e
   refine Ev.step (fun k => by rw [spec_AddAttack.j2]) (ev_neg (by decide) (Ev.step (fun k => by rw [spec_AddAttack.j3]) ?_))
   rw [hw]
   refine ev_bind0 rfl (ev_pos (by simp only [List.length_nil]; omega) (ev_pos (by omega) ?_))
   refine ih (i + 1) _ h2 (by rw [List.length_append, List.length_singleton]; omega) ?_
   rw [← he, List.nil_append, List.append_assoc]
   conv => rhs; unfold insR
   rw [if_neg e]
   rfl
  have hlx : lexLt [x, y] z = true ↔ x < rd z 0 ∨ x = rd z 0 ∧ y < rd z 1 := by
   unfold lexLt
   rw [decide_eq_true_eq]
   exact Iff.rfl
  refine ev_pos (by omega) (ev_ite (fun e1 => before (hlx.2 (by omega))) (fun e1 => ev_ite (fun e2 => ev_pos (by omega) ?_) (fun e2 => behind (fun e => ?_))))
  ·by_cases e3 : rd z 1 > y
   ·rw [decide_eq_true e3]
    exact before (hlx.2 (by omega))
   ·rw [decide_eq_false e3]
    exact behind (fun e => by have := hlx.1 e; omega)
  ·have := hlx.1 e; omega
theorem renI_l1 (n : Int) (xs : List (List Int)) (cs : List Int) (hok : renOk n xs cs) (hn : xs.length ≤ 1048576) : ∀ (zs : List (List Int)) (i : Nat) (acc : List (List Int)), xs.drop i = zs → i ≤ xs.length → acc = (xs.take i).map (renRow cs) → Ev (fun k => impl_Renamed.l1 k cs xs (xs.length : Int) (i : Int) n acc) (n, sortR (xs.map (renRow cs)), true) := by
 obtain ⟨hg, hc, hall, hd⟩ := hok
 intro zs
 induction zs with
 | nil =>
  intro i acc h hi hacc
  have := at_end h
  rw [List.take_of_length_le (by omega)] at hacc
  subst hacc
  obtain ⟨K, hK⟩ := cmpAll_ev (xs.map (renRow cs)) (fun r hr => by obtain ⟨a, _, rfl⟩ := List.mem_map.1 hr; rfl)
  refine Ev.step (fun k => by rw [impl_Renamed.l1]) (ev_neg (by omega) ?_)
  refine Ev.bind (a := sortR (xs.map (renRow cs))) ⟨K, fun k hk => ?_⟩ (Ev.now _)
  unfold slices_SortFunc_int_int.f
  exact if_pos ⟨rfl, by rw [List.length_map]; omega, hK k hk⟩
 | cons z zs ih =>
  intro i acc h hi hacc
  obtain ⟨hlt, hz, h2, _⟩ := at_drop h
  have hr : rd_L2 xs (i : Int) = z := getD_at hz
  have hzm := List.mem_of_getElem? hz
  obtain ⟨z1, z2, z3, z4, z5⟩ := isGraph_row hg hzm
  have hal : acc.length = i := by rw [hacc, List.length_map, List.length_take]; omega
  refine Ev.step (fun k => by rw [impl_Renamed.l1]) ?_
  rw [hr, wrap_id (by omega) (by omega)]
  refine ev_pos (by omega) (ev_pos (by omega) (ev_pos (by omega) (ev_pos (by omega) (ev_pos (by omega) (ev_pos (by omega) (ev_pos (by omega) (ev_pos (by omega) (ev_pos (by omega) (ev_pos (by omega) ?_)))))))))
  refine ih (i + 1) _ h2 (by omega) ?_
  rw [take_at hz, List.map_append, hacc]
  rfl
theorem renI_l0 (n : Int) (xs : List (List Int)) (cs : List Int) (hg : isGraph n xs = true) (hc : (cs.length : Int) = n) (hn : xs.length ≤ 1048576) (hi : ∀ y ∈ xs, y.length ≤ 1048576) : ∀ (zs : List Int) (i : Nat), cs.drop i = zs → i ≤ cs.length → (cs.take i).all (inR n) = true → (cs.take i).Nodup → Ev (fun k => impl_Renamed.l0 k cs cs (cs.length : Int) (i : Int) n xs) (renG n xs cs) := by
 have hb := isGraph_n hg
 intro zs
 induction zs with
 | nil =>
  intro i h hle ha hd
  have := at_end h
  rw [List.take_of_length_le (by omega)] at ha hd
  refine Ev.step (fun k => by rw [impl_Renamed.l0]) (ev_neg (by omega) ?_)
  refine ev_eq (renI_l1 n xs cs ⟨hg, hc, ha, hd⟩ hn xs 0 [] rfl (by omega) (by rw [List.take_zero, List.map_nil])) ?_
  unfold renG
  rw [if_pos ⟨hg, hc, ha, hd⟩]
 | cons z zs ih =>
  intro i h hle ha hd
  obtain ⟨hlt, hz, h2, _⟩ := at_drop h
  have hr : rd cs (i : Int) = z := rd_get hz
  have hzm := List.mem_of_getElem? hz
  have hcp := cloneG_ev n xs hn hi
  refine Ev.step (fun k => by rw [impl_Renamed.l0]) (ev_pos (by omega) (ev_pos (by omega) (ev_pos (by omega) ?_)))
  rw [hr, wrap_id (x := (i : Int) + 1) (by omega) (by omega), Int.toNat_natCast]
  refine ev_bind0 (isClaim_eq _ _ _) (ev_ite (fun e => ev_pos (by omega) (Ev.bind (containsInt_ev (cs.take i) z (by rw [List.length_take]; omega)) (ev_ite (fun e2 => Ev.bind hcp (ev_eq (Ev.now _) ?_)) (fun e2 => ih (i + 1) h2 (by omega) ?_ ?_)))) (fun e => Ev.bind hcp (ev_eq (Ev.now _) ?_)))
  ·unfold renG
   rw [if_neg]
   rintro ⟨_, _, _, hd2⟩
   rw [← List.take_append_drop i cs, List.nodup_append] at hd2
   exact hd2.2.2 z (of_decide_eq_true e2) z (by rw [h]; exact List.mem_cons_self) rfl
  ·rw [take_at hz, List.all_append, ha]
   simpa [inR] using e
  ·rw [take_at hz, List.nodup_append]
   refine ⟨hd, by simp, fun a ha2 b hb2 hab => ?_⟩
   rw [List.mem_singleton] at hb2
   subst hb2
   subst hab
   exact e2 (decide_eq_true ha2)
  ·unfold renG
   rw [if_neg]
   rintro ⟨_, _, hal, _⟩
   exact e (List.all_eq_true.1 hal z hzm)
theorem renamed_impl (n : Int) (xs : List (List Int)) (cs : List Int) (hn : xs.length ≤ 1048576) (hi : ∀ y ∈ xs, y.length ≤ 1048576) (ha : cs.length ≤ 1048576) : Ev (fun k => impl_Renamed.f k n xs cs) (renG n xs cs) := by
 have out : ¬ renOk n xs cs → Ev (fun k => impl_Renamed.j0 k cs true n xs) (renG n xs cs) := by
  intro h
  refine Ev.step (fun k => by rw [impl_Renamed.j0]) (ev_pos rfl (Ev.bind (cloneG_ev n xs hn hi) (ev_eq (Ev.now _) ?_)))
  unfold renG
  rw [if_neg h]
 unfold impl_Renamed.f
 refine Ev.bind (isGraph_impl n xs hn) (ev_ite (fun e => ?_) (fun e => out (fun h => e h.1)))
 by_cases hc : (cs.length : Int) = n
 ·rw [show ((cs.length : Int) != n) = false by simpa using hc]
  refine Ev.step (fun k => by rw [impl_Renamed.j0]) (ev_neg (by decide) ?_)
  exact renI_l0 n xs cs e hc hn hi cs 0 rfl (by omega) (by simp) (by simp)
 ·rw [show ((cs.length : Int) != n) = true by simpa using hc]
  exact out (fun h => hc h.2.1)

theorem compact_mem (zs : List Int) (y : Int) : y ∈ Go.Lib.compact zs ↔ y ∈ zs := by
 unfold Go.Lib.compact Go.Lib.compactUpTo
 constructor
 ·intro h
  obtain ⟨j, hj, rfl⟩ := List.mem_map.1 h
  have hj2 := List.mem_range.1 (List.mem_filter.1 hj).1
  simp [hj2]
 ·intro h
  obtain ⟨j, hj, he⟩ := List.getElem_of_mem h
  have key : ∀ j, (hj : j < zs.length) → zs[j] = y → y ∈ ((List.range zs.length).filter (Go.Lib.keeps zs.toArray)).map (zs.toArray[·]!) := by
   intro j
   induction j with
   | zero =>
    intro hj he
    exact List.mem_map.2 ⟨0, List.mem_filter.2 ⟨List.mem_range.2 hj, by simp [Go.Lib.keeps]⟩, by simp [hj, he]⟩
   | succ j ih =>
    intro hj he
    by_cases hk : Go.Lib.keeps zs.toArray (j + 1) = true
    ·exact List.mem_map.2 ⟨j + 1, List.mem_filter.2 ⟨List.mem_range.2 hj, hk⟩, by simp [hj, he]⟩
    ·refine ih (by omega) ?_
     have : zs[j + 1] = zs[j] := by simpa [Go.Lib.keeps, hj, show j < zs.length by omega] using hk
     rw [← this, he]
  exact key j hj he
theorem compact_asc (zs : List Int) (h : zs.Pairwise (· ≤ ·)) : (Go.Lib.compact zs).Pairwise (· < ·) := by
 unfold Go.Lib.compact Go.Lib.compactUpTo
 rw [List.pairwise_map]
 refine List.Pairwise.imp_of_mem ?_ (List.Pairwise.filter _ List.pairwise_lt_range)
 intro i j hi hj hij
 have hj2 := List.mem_range.1 (List.mem_filter.1 hj).1
 have hk := (List.mem_filter.1 hj).2
 have hk2 : ¬ zs[j] = zs[j - 1] := by
  have h1 : j = 0 ∨ ¬ zs[j] = zs[j - 1] := by simpa [Go.Lib.keeps, hj2, show j - 1 < zs.length by omega] using hk
  rcases h1 with h1 | h1
  ·omega
  ·exact h1
 have hp := List.pairwise_iff_getElem.1 h
 have h1 : zs[j - 1] ≤ zs[j] := hp (j - 1) j (by omega) hj2 (by omega)
 have h2 : zs[i] ≤ zs[j - 1] := by
  by_cases e : i = j - 1
  ·subst e
   exact Int.le_refl _
  ·exact hp i (j - 1) (by omega) (by omega) (by omega)
 simp only [List.getElem!_toArray, getElem!_pos zs i (by omega), getElem!_pos zs j hj2]
 omega
theorem sorted_asc (l : List Int) : (sorted_ l).Pairwise (· ≤ ·) := by
 have h := List.pairwise_mergeSort (le := fun x y : Int => decide (x ≤ y)) (by intro a b c h1 h2; simp at *; omega) (by intro a b; first | (simp; done) | (simp; omega)) l
 exact h.imp (fun h => by simpa using h)
theorem sorted_mem (l : List Int) (y : Int) : y ∈ sorted_ l ↔ y ∈ l := by
 unfold sorted_
 exact List.mem_mergeSort
/-- i, i + 1, .. (d of them), those that p takes. -/
def fromN (p : Int → Bool) : Nat → Nat → List Int
 | _, 0 => []
 | i, d + 1 => (if p (i : Int) = true then [(i : Int)] else []) ++ fromN p (i + 1) d
theorem fromN_mem (p : Int → Bool) (y : Int) : ∀ d i : Nat, y ∈ fromN p i d ↔ ((i : Int) ≤ y ∧ y < (i : Int) + d) ∧ p y = true := by
 intro d
 induction d with
 | zero =>
  intro i
  unfold fromN
  refine ⟨fun h => absurd h (by simp), fun h => ?_⟩
  have := h.1
  omega
 | succ d ih =>
  intro i
  unfold fromN
  rw [List.mem_append, ih (i + 1)]
  by_cases e : y = (i : Int)
  ·subst e
   by_cases hp : p (i : Int) = true
   ·rw [if_pos hp]
    refine ⟨fun _ => ⟨by omega, hp⟩, fun _ => .inl (by simp)⟩
   ·rw [if_neg hp]
    refine ⟨fun h => ?_, fun h => absurd h.2 hp⟩
    rcases h with h | h
    ·exact absurd h (by simp)
    ·exact absurd h.2 hp
  ·have h1 : ¬ y ∈ (if p (i : Int) = true then [(i : Int)] else []) := by
    split
    ·simpa using e
    ·simp
   constructor
   ·rintro (h | h)
    ·exact absurd h h1
    ·exact ⟨by omega, h.2⟩
   ·intro h
    exact .inr ⟨by omega, h.2⟩
theorem fromN_asc (p : Int → Bool) : ∀ d i : Nat, (fromN p i d).Pairwise (· < ·) := by
 intro d
 induction d with
 | zero => exact fun i => List.Pairwise.nil
 | succ d ih =>
  intro i
  unfold fromN
  split
  ·refine List.pairwise_cons.2 ⟨fun y hy => ?_, ih (i + 1)⟩
   have := ((fromN_mem p y d (i + 1)).1 hy).1
   omega
  ·exact ih (i + 1)
theorem fromN_len (p : Int → Bool) : ∀ d i : Nat, (fromN p i d).length ≤ d := by
 intro d
 induction d with
 | zero => exact fun i => Nat.le_refl _
 | succ d ih =>
  intro i
  unfold fromN
  have := ih (i + 1)
  rw [List.length_append]
  split
  ·rw [List.length_singleton]; omega
  ·rw [List.length_nil]; omega
theorem asc_same : ∀ (l m : List Int), l.Pairwise (· < ·) → m.Pairwise (· < ·) → (∀ y, y ∈ l ↔ y ∈ m) → l = m
 | [], [], _, _, _ => rfl
 | [], b :: m, _, _, h => by have := (h b).2 (by simp); simp at this
 | a :: l, [], _, _, h => by have := (h a).1 (by simp); simp at this
 | a :: l, b :: m, hl, hm, h => by
  rw [List.pairwise_cons] at hl hm
  have hab : a = b := by
   rcases List.mem_cons.1 ((h a).1 (by simp)) with e | h1
   ·exact e
   ·rcases List.mem_cons.1 ((h b).2 (by simp)) with e | h2
    ·exact e.symm
    ·have h3 := hm.1 a h1
     have h4 := hl.1 b h2
     omega
  subst hab
  rw [asc_same l m hl.2 hm.2 (fun y => ?_)]
  constructor
  ·intro hy
   rcases List.mem_cons.1 ((h y).1 (List.mem_cons_of_mem _ hy)) with rfl | h1
   ·have := hl.1 y hy
    omega
   ·exact h1
  ·intro hy
   rcases List.mem_cons.1 ((h y).2 (List.mem_cons_of_mem _ hy)) with rfl | h1
   ·have := hm.1 y hy
    omega
   ·exact h1
def hitB (xs : List (List Int)) (s : List Int) (k : Int) : Bool := xs.any fun r => decide (rd r 1 = k ∧ rd r 0 ∈ s)
def hits (n : Int) (xs : List (List Int)) (s : List Int) : List Int := if isGraph n xs = true then fromN (hitB xs s) 0 n.toNat else []
theorem hits_len (n : Int) (xs : List (List Int)) (s : List Int) : (hits n xs s).length ≤ 10 := by
 unfold hits
 split
 ·rename_i h
  have h1 := isGraph_n h
  have h2 := fromN_len (hitB xs s) n.toNat 0
  omega
 ·simp
theorem hitI_l0 (n : Int) (xs : List (List Int)) (s : List Int) (hn : xs.length ≤ 1048576) (hs : s.length ≤ 1048576) : ∀ (zs : List Int) (i : Nat) (acc : List Int), s.drop i = zs → i ≤ s.length → acc.length ≤ i * 1048576 → Ev (fun k => impl_HitBy.l0 k acc s (s.length : Int) (i : Int) n xs) (Go.Lib.compact (sorted_ (acc ++ zs.flatMap (victims n xs)))) := by
 intro zs
 induction zs with
 | nil =>
  intro i acc h hle hl
  have := at_end h
  refine Ev.step (fun k => by rw [impl_HitBy.l0]) (ev_neg (by omega) ?_)
  by_cases hi2 : acc.length < 4611686018427387904
  ·refine ev_bind0 (a := sorted_ acc) ?_ (ev_bind0 (a := Go.Lib.compact (sorted_ acc)) rfl (ev_eq (Ev.now _) (by simp)))
   unfold slices_Sort_int_int.f
   rw [if_pos hi2]
  ·exfalso
   omega
 | cons z zs ih =>
  intro i acc h hle hl
  obtain ⟨hlt, hz, h2, _⟩ := at_drop h
  have hr : rd s (i : Int) = z := rd_get hz
  have hv := victims_length n xs z
  refine Ev.step (fun k => by rw [impl_HitBy.l0]) (ev_pos (by omega) (ev_pos (by omega) (ev_pos (by omega) ?_)))
  rw [hr, wrap_id (by omega) (by omega)]
  refine Ev.bind (victims_impl n xs z hn) (ev_pos (by omega) (ev_eq (ih (i + 1) _ h2 (by omega) (by rw [List.length_append]; omega)) ?_))
  rw [List.flatMap_cons, List.append_assoc]
theorem hits_impl (n : Int) (xs : List (List Int)) (s : List Int) (hn : xs.length ≤ 1048576) (hs : s.length ≤ 1024) : Ev (fun k => impl_HitBy.f k n xs s) (hits n xs s) := by
 unfold impl_HitBy.f
 refine ev_eq (hitI_l0 n xs s hn (by omega) s 0 [] rfl (by omega) (by simp)) ?_
 have hasc : (hits n xs s).Pairwise (· < ·) := by
  unfold hits
  split
  ·exact fromN_asc _ _ _
  ·exact List.Pairwise.nil
 refine asc_same _ _ (compact_asc _ (sorted_asc _)) hasc (fun y => ?_)
 rw [compact_mem, sorted_mem, List.nil_append, List.mem_flatMap]
 have hd : ∀ a, y ∈ victims n xs a ↔ does n xs a y = true := fun a => by rw [← victims_mem, decide_eq_true_eq]
 unfold hits
 by_cases hg : isGraph n xs = true
 ·rw [if_pos hg, fromN_mem]
  unfold hitB
  rw [List.any_eq_true]
  constructor
  ·rintro ⟨a, ha, hy⟩
   rw [hd] at hy
   have hrange := does_range hy
   unfold does at hy
   rw [Bool.and_eq_true, List.any_eq_true] at hy
   obtain ⟨_, r, hr, he⟩ := hy
   have he := of_decide_eq_true he
   exact ⟨by have := isGraph_n hg; omega, r, hr, decide_eq_true ⟨he.2, by rw [he.1]; exact ha⟩⟩
  ·rintro ⟨_, r, hr, he⟩
   have he := of_decide_eq_true he
   refine ⟨rd r 0, he.2, ?_⟩
   rw [hd]
   unfold does
   rw [Bool.and_eq_true, List.any_eq_true]
   exact ⟨hg, r, hr, decide_eq_true ⟨rfl, he.1⟩⟩
 ·rw [if_neg hg]
  refine ⟨?_, fun h => absurd h (by simp)⟩
  rintro ⟨a, _, hy⟩
  rw [hd] at hy
  unfold does at hy
  rw [Bool.and_eq_true] at hy
  exact absurd hy.1 hg
def defends (n : Int) (xs : List (List Int)) (s : List Int) (c : Int) : Bool := isSet n xs s && (inR n c && (attackers n xs c).all fun a => decide (a ∈ hits n xs s))
theorem defI_l0 (h at_ : List Int) (hh : h.length ≤ 1048576) (ha : at_.length ≤ 1048576) : ∀ (zs : List Int) (i : Nat), at_.drop i = zs → Ev (fun k => impl_Defends.l0 k h at_ (at_.length : Int) (i : Int)) (zs.all fun a => decide (a ∈ h)) := by
 intro zs
 induction zs with
 | nil =>
  intro i he
  have := at_end he
  refine Ev.step (fun k => by rw [impl_Defends.l0]) ?_
  exact ev_neg (by omega) (Ev.now _)
 | cons z zs ih =>
  intro i he
  obtain ⟨hlt, hz, h2, _⟩ := at_drop he
  have hr : rd at_ (i : Int) = z := rd_get hz
  refine Ev.step (fun k => by rw [impl_Defends.l0]) (ev_pos (by omega) (ev_pos (by omega) (ev_pos (by omega) ?_)))
  rw [hr, wrap_id (by omega) (by omega)]
  refine Ev.bind (containsInt_ev h z (by omega)) (ev_ite (fun e => ev_eq (ih (i + 1) h2) ?_) (fun e => ev_eq (Ev.now _) ?_))
  ·rw [List.all_cons, e, Bool.true_and]
  ·rw [List.all_cons, show decide (z ∈ h) = false by simpa using e, Bool.false_and]
theorem defends_impl (n : Int) (xs : List (List Int)) (s : List Int) (c : Int) (hn : xs.length ≤ 1048576) (hs : s.length ≤ 1024) : Ev (fun k => impl_Defends.f k n xs s c) (defends n xs s c) := by
 unfold impl_Defends.f defends
 have hl := hits_len n xs s
 have hal := attackers_length n xs c
 have bad : Ev (fun k => impl_Defends.j0 k s c true n xs) false := Ev.step (fun k => by rw [impl_Defends.j0]) (ev_pos rfl (Ev.now _))
 refine Ev.bind (isSet_ev n xs s hn (by omega)) (ev_ite (fun e => ev_bind0 (isClaim_eq _ _ _) ?_) (fun e => ev_eq bad ?_))
 ·rw [e, Bool.true_and]
  have hin : decide (0 ≤ c ∧ c ≤ wrap64 (n - 1)) = inR n c := rfl
  rw [hin]
  cases hc : inR n c with
  | true =>
   refine Ev.step (fun k => by rw [impl_Defends.j0]) (ev_neg (by decide) (Ev.bind (hits_impl n xs s hn hs) (Ev.bind (attackers_impl n xs c hn) ?_)))
   rw [Bool.true_and]
   exact defI_l0 _ _ (by omega) (by omega) _ 0 rfl
  | false =>
   rw [Bool.false_and]
   exact bad
 ·rw [show isSet n xs s = false by simpa using e, Bool.false_and]
def defended (n : Int) (xs : List (List Int)) (s : List Int) : List Int := if isSet n xs s = true then fromN (defends n xs s) 0 n.toNat else []
theorem isSet_n {n : Int} {xs : List (List Int)} {s : List Int} (h : isSet n xs s = true) : 0 ≤ n ∧ n ≤ 10 := by
 unfold isSet at h
 exact isGraph_n (Bool.and_eq_true_iff.1 h).1
theorem defended_len (n : Int) (xs : List (List Int)) (s : List Int) : (defended n xs s).length ≤ 10 := by
 unfold defended
 split
 ·rename_i h
  have h1 := isSet_n h
  have h2 := fromN_len (defends n xs s) n.toNat 0
  omega
 ·simp
theorem defdI_l0 (n : Int) (xs : List (List Int)) (s : List Int) (hb : 0 ≤ n ∧ n ≤ 10) (hn : xs.length ≤ 1048576) (hs : s.length ≤ 1024) : ∀ (d i : Nat) (acc : List Int), (i : Int) + d = n → acc.length ≤ i → Ev (fun k => impl_DefendedBy.l0 k s acc n (i : Int) n xs) (acc ++ fromN (defends n xs s) i d) := by
 intro d
 induction d with
 | zero =>
  intro i acc h hl
  exact Ev.step (fun k => by rw [impl_DefendedBy.l0]) (ev_neg (by omega) (ev_eq (Ev.now _) (by simp [fromN])))
 | succ d ih =>
  intro i acc h hl
  refine Ev.step (fun k => by rw [impl_DefendedBy.l0]) (ev_pos (by omega) (Ev.bind (defends_impl n xs s (i : Int) hn hs) ?_))
  rw [wrap_id (by omega) (by omega)]
  unfold fromN
  refine ev_ite (fun e => ev_pos (by omega) (ev_eq (ih (i + 1) _ (by omega) (by rw [List.length_append, List.length_singleton]; omega)) ?_)) (fun e => ev_eq (ih (i + 1) acc (by omega) (by omega)) ?_)
  ·rw [if_pos e, List.append_assoc]
  ·rw [if_neg e, List.nil_append]
theorem defended_impl (n : Int) (xs : List (List Int)) (s : List Int) (hn : xs.length ≤ 1048576) (hs : s.length ≤ 1024) : Ev (fun k => impl_DefendedBy.f k n xs s) (defended n xs s) := by
 unfold impl_DefendedBy.f defended
 refine ev_bind0 rfl (Ev.bind (isSet_ev n xs s hn (by omega)) (ev_ite (fun e => ?_) (fun e => ?_)))
 ·rw [if_pos e]
  have hb := isSet_n e
  exact defdI_l0 n xs s hb hn hs n.toNat 0 [] (by omega) (Nat.le_refl _)
 ·rw [if_neg e]
  exact Ev.now _
theorem equalI_l0 (xs ys : List Int) (hn : xs.length ≤ 1048576) (hl : xs.length = ys.length) : ∀ (zs us : List Int) (i : Nat), xs.drop i = zs → ys.drop i = us → Ev (fun k => slices_Equal_int_int.l0 k xs ys (xs.length : Int) (i : Int)) (decide (zs = us)) := by
 intro zs
 induction zs with
 | nil =>
  intro us i h hu
  have := at_end h
  rw [List.drop_of_length_le (by omega)] at hu
  subst hu
  exact Ev.step (fun k => by rw [slices_Equal_int_int.l0]) (ev_neg (by omega) (ev_eq (Ev.now _) (by simp)))
 | cons z zs ih =>
  intro us i h hu
  obtain ⟨hlt, hz, h2, _⟩ := at_drop h
  cases us with
  | nil => have := at_end hu; omega
  | cons u us =>
   obtain ⟨_, hzu, hu2, _⟩ := at_drop hu
   refine Ev.step (fun k => by rw [slices_Equal_int_int.l0]) (ev_pos (by omega) (ev_pos (by omega) (ev_pos (by omega) (ev_pos (by omega) ?_))))
   rw [rd_get hz, rd_get hzu, wrap_id (by omega) (by omega)]
   exact ev_ite (fun e => ev_eq (ih us (i + 1) h2 hu2) (by simp [e])) (fun e => ev_eq (Ev.now _) (by simp [e]))
theorem equalI_ev (xs ys : List Int) (hn : xs.length ≤ 1048576) : Ev (fun k => slices_Equal_int_int.f k xs ys) (decide (xs = ys)) := by
 unfold slices_Equal_int_int.f
 refine ev_ite (fun e => equalI_l0 xs ys hn (by omega) xs ys 0 rfl rfl) (fun e => ev_eq (Ev.now _) ?_)
 exact (decide_eq_false (fun h => e (by rw [h]))).symm
theorem asc_sublist : ∀ (z a : List Int), a.Pairwise (· < ·) → z.Pairwise (· < ·) → (∀ x ∈ a, x ∈ z) → a.Sublist z := by
 intro z
 induction z with
 | nil =>
  intro a _ _ h
  cases a with
  | nil => exact List.Sublist.refl _
  | cons x a => exact absurd (h x List.mem_cons_self) (by simp)
 | cons y z ih =>
  intro a ha hz h
  obtain ⟨z1, z2⟩ := List.pairwise_cons.1 hz
  cases a with
  | nil => exact List.nil_sublist _
  | cons x a =>
   obtain ⟨a1, a2⟩ := List.pairwise_cons.1 ha
   rcases List.mem_cons.1 (h x List.mem_cons_self) with rfl | hx
   ·refine List.Sublist.cons_cons x (ih a a2 z2 (fun t ht => ?_))
    have h1 := a1 t ht
    rcases List.mem_cons.1 (h t (List.mem_cons_of_mem _ ht)) with rfl | h2
    ·omega
    ·exact h2
   ·refine List.Sublist.cons y (ih (x :: a) ha z2 (fun t ht => ?_))
    have hyx := z1 x hx
    rcases List.mem_cons.1 (h t ht) with rfl | h2
    ·rcases List.mem_cons.1 ht with rfl | h3
     ·exact hx
     ·have := a1 t h3
      omega
    ·exact h2
theorem containsL_l0 (xs : List Int) (x : Int) (hn : xs.length ≤ 9223372036854775807) : ∀ (zs : List Int) (i : Nat), xs.drop i = zs → Ev (fun k => laws_contains.l0 k xs x (i : Int)) (decide (x ∈ zs)) := by
 intro zs
 induction zs with
 | nil =>
  intro i h
  have := at_end h
  refine Ev.step (fun k => by rw [laws_contains.l0]) ?_
  exact ev_neg (by omega) (ev_eq (Ev.now _) (by simp))
 | cons z zs ih =>
  intro i h
  obtain ⟨hlt, hz, h2, _⟩ := at_drop h
  refine Ev.step (fun k => by rw [laws_contains.l0]) ?_
  rw [wrap_id (by omega) (by omega), rd_get hz]
  refine ev_pos (by omega) (ev_pos (by omega) (ev_ite (fun e => ev_eq (Ev.now _) (by simp [e])) (fun e => ev_eq (ih (i + 1) h2) ?_)))
  have : x ≠ z := fun h => e h.symm
  simp [this]
theorem containsL_ev (xs : List Int) (x : Int) (hn : xs.length ≤ 9223372036854775807) : Ev (fun k => laws_contains.f k xs x) (decide (x ∈ xs)) := by
 unfold laws_contains.f
 exact containsL_l0 xs x hn xs 0 rfl
theorem mem_att {n : Int} {xs : List (List Int)} {q c : Int} (hg : isGraph n xs = true) : q ∈ attackers n xs c ↔ ∃ r ∈ xs, rd r 1 = c ∧ rd r 0 = q := by
 unfold attackers
 rw [if_pos hg, List.mem_map]
 constructor
 ·rintro ⟨r, hr, e⟩
  obtain ⟨h1, h2⟩ := List.mem_filter.1 hr
  exact ⟨r, h1, of_decide_eq_true h2, e⟩
 ·rintro ⟨r, h1, h2, e⟩
  exact ⟨r, List.mem_filter.2 ⟨h1, decide_eq_true h2⟩, e⟩
theorem mem_hits {n : Int} {xs : List (List Int)} {s : List Int} {c : Int} (hg : isGraph n xs = true) : c ∈ hits n xs s ↔ ∃ q ∈ s, q ∈ attackers n xs c := by
 unfold hits
 rw [if_pos hg, fromN_mem]
 unfold hitB
 rw [List.any_eq_true]
 have hn := isGraph_n hg
 constructor
 ·rintro ⟨_, r, hr, h⟩
  obtain ⟨h1, h2⟩ := of_decide_eq_true h
  exact ⟨_, h2, (mem_att hg).2 ⟨r, hr, h1, rfl⟩⟩
 ·rintro ⟨q, hq, h⟩
  obtain ⟨r, hr, h1, h2⟩ := (mem_att hg).1 h
  have := isGraph_row hg hr
  refine ⟨by omega, r, hr, decide_eq_true ⟨h1, h2 ▸ hq⟩⟩
theorem up_of : ∀ l : List Int, l.Pairwise (· < ·) → upward l = true
 | [], _ => rfl
 | [_], _ => rfl
 | a :: b :: r, h => by
  obtain ⟨h1, h2⟩ := List.pairwise_cons.1 h
  unfold upward
  rw [up_of (b :: r) h2, Bool.and_true]
  exact decide_eq_true (h1 b (by simp))
theorem set_of {n : Int} {xs : List (List Int)} (hg : isGraph n xs = true) (p : Int → Bool) : isSet n xs (fromN p 0 n.toNat) = true := by
 unfold isSet
 have hn := isGraph_n hg
 rw [hg, up_of _ (fromN_asc _ _ _), Bool.and_true, Bool.true_and, List.all_eq_true]
 intro y hy
 have h1 := ((fromN_mem p y _ _).1 hy).1
 unfold inR
 rw [wrap_id (by omega) (by omega)]
 exact decide_eq_true (by omega)
theorem mem_defended {n : Int} {xs : List (List Int)} {s : List Int} (hs : isSet n xs s = true) (c : Int) : c ∈ defended n xs s ↔ (0 ≤ c ∧ c < n) ∧ ∀ o ∈ attackers n xs c, ∃ q ∈ s, q ∈ attackers n xs o := by
 have hg : isGraph n xs = true := by unfold isSet at hs; exact (Bool.and_eq_true_iff.1 hs).1
 have hn := isGraph_n hg
 unfold defended
 rw [if_pos hs, fromN_mem]
 unfold defends
 rw [hs, Bool.true_and, Bool.and_eq_true, List.all_eq_true]
 unfold inR
 rw [decide_eq_true_eq, wrap_id (by omega) (by omega)]
 constructor
 ·rintro ⟨h1, _, h2⟩
  exact ⟨by omega, fun o ho => (mem_hits hg).1 (of_decide_eq_true (h2 o ho))⟩
 ·rintro ⟨h1, h2⟩
  exact ⟨by omega, by omega, fun o ho => decide_eq_true ((mem_hits hg).2 (h2 o ho))⟩
/-- The rounds: what none attacks, what that defends, and so on. -/
def iterD (n : Int) (xs : List (List Int)) : Nat → List Int
 | 0 => []
 | r + 1 => defended n xs (iterD n xs r)
theorem iterD_set {n : Int} {xs : List (List Int)} (hg : isGraph n xs = true) : ∀ r, isSet n xs (iterD n xs r) = true
 | 0 => by unfold isSet iterD; rw [hg]; rfl
 | r + 1 => by
  unfold iterD defended
  rw [if_pos (iterD_set hg r)]
  exact set_of hg _
theorem iterD_mem {n : Int} {xs : List (List Int)} (hg : isGraph n xs = true) (r : Nat) (c : Int) : c ∈ iterD n xs (r + 1) ↔ (0 ≤ c ∧ c < n) ∧ ∀ o ∈ attackers n xs c, ∃ q ∈ iterD n xs r, q ∈ attackers n xs o := mem_defended (iterD_set hg r) c
theorem iterD_step {n : Int} {xs : List (List Int)} (hg : isGraph n xs = true) : ∀ (r : Nat) (c : Int), c ∈ iterD n xs r → c ∈ iterD n xs (r + 1)
 | 0, c, h => absurd h (by simp [iterD])
 | r + 1, c, h => by
  obtain ⟨h1, h2⟩ := (iterD_mem hg r c).1 h
  refine (iterD_mem hg (r + 1) c).2 ⟨h1, fun o ho => ?_⟩
  obtain ⟨q, hq, h3⟩ := h2 o ho
  exact ⟨q, iterD_step hg r q hq, h3⟩
theorem iterD_le {n : Int} {xs : List (List Int)} (hg : isGraph n xs = true) {r s : Nat} (h : r ≤ s) {c : Int} (hc : c ∈ iterD n xs r) : c ∈ iterD n xs s := by
 induction h with
 | refl => exact hc
 | step _ ih => exact iterD_step hg _ c ih
theorem iterD_asc {n : Int} {xs : List (List Int)} : ∀ r, (iterD n xs r).Pairwise (· < ·)
 | 0 => List.Pairwise.nil
 | r + 1 => by
  unfold iterD defended
  split
  ·exact fromN_asc _ _ _
  ·exact List.Pairwise.nil
theorem iterD_len {n : Int} {xs : List (List Int)} : ∀ r, (iterD n xs r).length ≤ 10
 | 0 => by simp [iterD]
 | r + 1 => defended_len n xs _
theorem iterD_grow {n : Int} {xs : List (List Int)} (hg : isGraph n xs = true) (r : Nat) (h : iterD n xs (r + 1) ≠ iterD n xs r) : (iterD n xs r).length + 1 ≤ (iterD n xs (r + 1)).length := by
 have hs := asc_sublist _ _ (iterD_asc r) (iterD_asc (r + 1)) (iterD_step hg r)
 rcases Nat.lt_or_ge (iterD n xs r).length (iterD n xs (r + 1)).length with h1 | h1
 ·exact h1
 ·exact absurd (hs.eq_of_length_le h1).symm h
theorem iterD_stop {n : Int} {xs : List (List Int)} {R : Nat} (h : iterD n xs (R + 1) = iterD n xs R) : ∀ t, iterD n xs (R + t) = iterD n xs R
 | 0 => rfl
 | t + 1 => by
  have e : iterD n xs (R + (t + 1)) = defended n xs (iterD n xs (R + t)) := rfl
  rw [e, iterD_stop h t]
  exact h
theorem iterD_top {n : Int} {xs : List (List Int)} (hg : isGraph n xs = true) {R : Nat} (h : iterD n xs (R + 1) = iterD n xs R) (d : Nat) {c : Int} (hc : c ∈ iterD n xs d) : c ∈ iterD n xs R := by
 rcases Nat.le_total d R with h1 | h1
 ·exact iterD_le hg h1 hc
 ·obtain ⟨t, rfl⟩ : ∃ t, d = R + t := ⟨d - R, by omega⟩
  rw [iterD_stop h t] at hc
  exact hc
theorem rdL1_last (xs : List (List Int)) (f : Nat → List Int) (r : Nat) : rd_L2 ((List.range (r + 1)).map f) (r : Int) = f r := by
 exact getD_at (by simp)
theorem rounds_l0 (n : Int) (xs : List (List Int)) (hg : isGraph n xs = true) (hn : xs.length ≤ 1048576) : ∀ (d r : Nat), 11 ≤ d + (iterD n xs r).length → r + d ≤ 20 → ∃ R, iterD n xs (R + 1) = iterD n xs R ∧ R ≤ 20 ∧ Ev (fun k => impl_rounds.l0 k ((List.range (r + 1)).map (iterD n xs)) n xs) ((List.range (R + 1)).map (iterD n xs)) := by
 intro d
 induction d with
 | zero => intro r h; have := iterD_len (n := n) (xs := xs) r; omega
 | succ d ih =>
  intro r h h2
  have hl : ((List.range (r + 1)).map (iterD n xs)).length = r + 1 := by simp
  have hlen := iterD_len (n := n) (xs := xs) r
  have hlen2 := iterD_len (n := n) (xs := xs) (r + 1)
  have hw : wrap64 ((((List.range (r + 1)).map (iterD n xs)).length : Int) - 1) = (r : Int) := by rw [hl, wrap_id (by omega) (by omega)]; omega
  have key : ∀ R', Ev (fun k => (slices_Equal_int_int.f k (iterD n xs (r + 1)) (iterD n xs r)).bind fun t207 => (if t207 = true then (some ((List.range (r + 1)).map (iterD n xs))) else (if ((List.range (r + 1)).map (iterD n xs)).length < 5864062014805 then (impl_rounds.l0 k (((List.range (r + 1)).map (iterD n xs)) ++ [iterD n xs (r + 1)]) n xs) else none))) R' → Ev (fun k => impl_rounds.l0 k ((List.range (r + 1)).map (iterD n xs)) n xs) R' := by
   intro R' hR'
   refine Ev.step (fun k => by rw [impl_rounds.l0]) ?_
   rw [hw]
   refine ev_pos (by omega) (ev_pos (by rw [hl]; omega) ?_)
   rw [rdL1_last xs]
   exact Ev.bind (defended_impl n xs _ hn (by omega)) hR'
  by_cases e : iterD n xs (r + 1) = iterD n xs r
  ·exact ⟨r, e, by omega, key _ (Ev.bind (equalI_ev _ _ (by omega)) (ev_pos (decide_eq_true e) (Ev.now _)))⟩
  ·have hgr := iterD_grow hg r e
   obtain ⟨R, h3, h4, h5⟩ := ih (r + 1) (by omega) (by omega)
   refine ⟨R, h3, h4, key _ (Ev.bind (equalI_ev _ _ (by omega)) (ev_neg (by simpa using e) (ev_pos (by rw [hl]; omega) ?_)))⟩
   rw [List.range_succ (n := r + 1), List.map_append] at h5
   exact h5
theorem grounded_impl (n : Int) (xs : List (List Int)) (hn : xs.length ≤ 1048576) : ∃ G, Ev (fun k => impl_Grounded.f k n xs) G ∧ G.length ≤ 10 ∧ (isGraph n xs = true → ∃ R, iterD n xs (R + 1) = iterD n xs R ∧ G = iterD n xs R) ∧ (isGraph n xs = false → G = []) := by
 cases hg : isGraph n xs with
 | true =>
  obtain ⟨R, h1, h2, h3⟩ := rounds_l0 n xs hg hn 11 0 (by omega) (by omega)
  refine ⟨iterD n xs R, ?_, iterD_len R, fun _ => ⟨R, h1, rfl⟩, fun h => absurd h (by decide)⟩
  unfold impl_Grounded.f
  have hl : ((List.range (R + 1)).map (iterD n xs)).length = R + 1 := by simp
  have hw : wrap64 ((((List.range (R + 1)).map (iterD n xs)).length : Int) - 1) = (R : Int) := by rw [hl, wrap_id (by omega) (by omega)]; omega
  have h4 : Ev (fun k => impl_rounds.f k n xs) ((List.range (R + 1)).map (iterD n xs)) := by
   unfold impl_rounds.f
   refine ev_bind0 rfl (Ev.bind (isGraph_impl n xs hn) (ev_pos hg ?_))
   exact h3
  refine Ev.bind h4 ?_
  rw [hw]
  refine ev_pos (by omega) (ev_pos (by rw [hl]; omega) ?_)
  rw [rdL1_last xs]
  exact Ev.now _
 | false =>
  refine ⟨[], ?_, by simp, fun h => absurd h (by decide), fun _ => rfl⟩
  unfold impl_Grounded.f
  have h4 : Ev (fun k => impl_rounds.f k n xs) [[]] := by
   unfold impl_rounds.f
   exact ev_bind0 rfl (Ev.bind (isGraph_impl n xs hn) (ev_neg (by rw [hg]; decide) (Ev.now _)))
  refine Ev.bind h4 ?_
  rw [show wrap64 ((([[]] : List (List Int)).length : Int) - 1) = 0 from wrap_id (x := 0) (by omega) (by omega)]
  exact ev_pos (by decide) (ev_pos (by decide) (Ev.now _))
theorem addAttack_any (n x y : Int) (S : List (List Int)) (hg : isGraph n S = true) (hn : S.length < 1048576) : ∃ T b, Ev (fun k => spec_AddAttack.f k n S x y) (n, T, b) ∧ isGraph n T = true ∧ T.length ≤ S.length + 1 := by
 have hl : (insR [x, y] S).length = S.length + 1 := by rw [(insR_perm [x, y] S).length_eq, List.length_cons]
 cases h : isGraph n (insR [x, y] S) with
 | true =>
  refine ⟨insR [x, y] S, true, ?_, h, by omega⟩
  unfold spec_AddAttack.f
  refine addS_l0 n x y S hg (by omega) _ ?_ S 0 [] rfl (Nat.le_refl _) rfl
  exact Ev.step (fun k => by rw [spec_AddAttack.j4]) (Ev.bind (isGraph_spec n S (by omega)) (ev_pos hg (Ev.bind (isGraph_spec n (insR [x, y] S) (by omega)) (ev_pos h (Ev.now _)))))
 | false =>
  refine ⟨S, false, ?_, hg, by omega⟩
  unfold spec_AddAttack.f
  refine addS_l0 n x y S hg (by omega) _ ?_ S 0 [] rfl (Nat.le_refl _) rfl
  refine Ev.step (fun k => by rw [spec_AddAttack.j4]) (Ev.bind (isGraph_spec n S (by omega)) (ev_pos hg (Ev.bind (isGraph_spec n (insR [x, y] S) (by omega)) (ev_neg (c := isGraph n (insR [x, y] S) = true) (by rw [h]; decide) ?_))))
  exact Ev.bind (copyG_ev n S (by omega) (fun y hy => by have := (isGraph_row hg hy).1; omega)) (Ev.now _)
theorem sameInts_l0 (xs ys : List Int) (hn : xs.length ≤ 1048576) (hl : xs.length = ys.length) : ∀ (zs us : List Int) (i : Nat), xs.drop i = zs → ys.drop i = us → Ev (fun k => laws_sameInts.l0 k xs ys (i : Int)) (decide (zs = us)) := by
 intro zs
 induction zs with
 | nil =>
  intro us i h hu
  have := at_end h
  have hu2 : us = [] := by rw [← hu]; exact List.drop_eq_nil_of_le (by omega)
  exact Ev.step (fun k => by rw [laws_sameInts.l0]) (ev_neg (by omega) (ev_eq (Ev.now _) (by rw [hu2]; rfl)))
 | cons z zs ih =>
  intro us i h hu
  obtain ⟨hlt, hz, h2, _⟩ := at_drop h
  cases us with
  | nil => have := at_end hu; omega
  | cons u us =>
   obtain ⟨hlt2, hz2, h3, _⟩ := at_drop hu
   refine Ev.step (fun k => by rw [laws_sameInts.l0]) (ev_pos (by omega) (ev_pos (by omega) (ev_pos (by omega) ?_)))
   rw [rd_get hz, rd_get hz2, wrap_id (by omega) (by omega)]
   refine ev_ite (fun e => ?_) (fun e => ev_eq (Ev.now _) (by simp [e]))
   subst e
   exact ev_eq (ih us (i + 1) h2 h3) (by simp)
theorem sameInts_ev (xs ys : List Int) (hn : xs.length ≤ 1048576) : Ev (fun k => laws_sameInts.f k xs ys) (decide (xs = ys)) := by
 unfold laws_sameInts.f
 refine ev_ite (fun e => sameInts_l0 xs ys hn (by omega) xs ys 0 rfl rfl) (fun e => ev_eq (Ev.now _) (decide_eq_false (fun h => e (by rw [h]))).symm)
/-- What the program's IsPartOf answers. -/
def partV (m n : Int) (xs ys : List (List Int)) : Bool := isGraph m xs && (isGraph n ys && (decide (m ≤ n) && decide (xs = innerOf m ys)))
theorem part_val (m n : Int) (xs ys : List (List Int)) (hx : xs.length ≤ 1048576) (hi : ∀ y ∈ xs, y.length ≤ 1048576) (hy : ys.length ≤ 1048576) : Ev (fun k => impl_IsPartOf.f k m xs n ys) (partV m n xs ys) := by
 have ji : Ev (fun k => impl_IsPartOf.j0 k true m xs n ys) false := Ev.step (fun k => by rw [impl_IsPartOf.j0]) (ev_pos rfl (Ev.now _))
 unfold impl_IsPartOf.f partV
 cases h1 : isGraph m xs with
 | false => exact Ev.bind (isGraph_impl m xs hx) (ev_neg (by rw [h1]; decide) ji)
 | true =>
  rw [Bool.true_and]
  cases h2 : isGraph n ys with
  | false => exact Ev.bind (isGraph_impl m xs hx) (ev_pos h1 (Ev.bind (isGraph_impl n ys hy) (ev_neg (by rw [h2]; decide) ji)))
  | true =>
   rw [Bool.true_and]
   refine Ev.bind (isGraph_impl m xs hx) (ev_pos h1 (Ev.bind (isGraph_impl n ys hy) (ev_pos h2 ?_)))
   by_cases h3 : m > n
   ·rw [decide_eq_true h3, decide_eq_false (show ¬ m ≤ n by omega)]
    exact ji
   ·rw [decide_eq_false h3, decide_eq_true (show m ≤ n by omega), Bool.true_and]
    refine Ev.step (fun k => by rw [impl_IsPartOf.j0]) ?_
    exact ev_neg (by decide) (partI_l0 m n xs ys hx hi hy h2 ys 0 [] rfl (by simp) rfl)
theorem withG_true {n : Int} {xs : List (List Int)} {cs : List Int} (h : (withG n xs cs).2.2 = true) : isGraph n xs = true ∧ cs.all (inR n) = true ∧ isGraph (n + 1) (xs ++ newRows n cs) = true ∧ withG n xs cs = (n + 1, xs ++ newRows n cs, true) := by
 unfold withG at h ⊢
 split at h
 ·rename_i e
  rw [if_pos e]
  exact ⟨e.1, e.2.1, e.2.2, rfl⟩
 ·exact absurd h Bool.false_ne_true
theorem new_mem {n : Int} {cs : List Int} (hn : 0 ≤ n ∧ n ≤ 10) (ha : cs.all (inR n) = true) {r : List Int} (hr : r ∈ newRows n cs) : rd r 0 = n ∧ 0 ≤ rd r 1 ∧ rd r 1 < n := by
 obtain ⟨a, h1, rfl⟩ := List.mem_map.1 hr
 have h2 := of_decide_eq_true (List.all_eq_true.1 ha a h1)
 rw [wrap_id (by omega) (by omega)] at h2
 exact ⟨rfl, h2.1, show a < n by omega⟩
theorem inner_self {n : Int} {xs : List (List Int)} (hg : isGraph n xs = true) : innerOf n xs = xs := by
 unfold innerOf
 refine List.filter_eq_self.2 (fun r hr => decide_eq_true ?_)
 have := isGraph_row hg hr
 omega
theorem inner_new {n : Int} {xs : List (List Int)} {cs : List Int} (hg : isGraph n xs = true) (ha : cs.all (inR n) = true) : innerOf n (xs ++ newRows n cs) = xs := by
 have h := inner_self hg
 unfold innerOf at h ⊢
 rw [List.filter_append, h, List.filter_eq_nil_iff.2 (fun r hr => ?_), List.append_nil]
 have := (new_mem (isGraph_n hg) ha hr).1
 rw [decide_eq_true_eq]
 omega
theorem victims_new {n : Int} {xs : List (List Int)} {cs : List Int} (hg : isGraph n xs = true) (ha : cs.all (inR n) = true) (hX : isGraph (n + 1) (xs ++ newRows n cs) = true) : victims (n + 1) (xs ++ newRows n cs) n = cs := by
 unfold victims
 rw [if_pos hX, List.filter_append, List.filter_eq_nil_iff.2 (fun r hr => ?_), List.nil_append, List.filter_eq_self.2 (fun r hr => decide_eq_true (new_mem (isGraph_n hg) ha hr).1)]
 ·unfold newRows
  rw [List.map_map]
  exact List.map_id cs
 ·have := isGraph_row hg hr
  rw [decide_eq_true_eq]
  omega
theorem drop_append (c : Int) : ∀ xs ys : List (List Int), dropRows c (xs ++ ys) = dropRows c xs ++ dropRows c ys := by
 intro xs ys
 induction xs with
 | nil => rfl
 | cons r rs ih =>
  rw [List.cons_append, dropRows_cons, dropRows_cons, ih]
  split
  ·rfl
  ·rfl
theorem drop_self (c : Int) : ∀ xs : List (List Int), (∀ r ∈ xs, r.length = 2 ∧ rd r 0 < c ∧ rd r 1 < c) → dropRows c xs = xs := by
 intro xs
 induction xs with
 | nil => exact fun _ => rfl
 | cons r rs ih =>
  intro h
  obtain ⟨h1, h2, h3⟩ := h r List.mem_cons_self
  have h4 : aside c r = false := decide_eq_false (by omega)
  rw [dropRows_cons, h4, ih (fun z hz => h z (List.mem_cons_of_mem _ hz))]
  unfold lessC
  rw [if_neg (show ¬ rd r 0 > c by omega), if_neg (show ¬ rd r 1 > c by omega), ← two h1]
  rfl
theorem drop_new (n : Int) : ∀ cs : List Int, dropRows n (newRows n cs) = [] := by
 intro cs
 induction cs with
 | nil => rfl
 | cons a cs ih =>
  have e : newRows n (a :: cs) = [n, a] :: newRows n cs := rfl
  have h4 : aside n [n, a] = true := decide_eq_true (.inl rfl)
  rw [e, dropRows_cons, h4, ih]
  rfl
theorem without_new {n : Int} {xs : List (List Int)} {cs : List Int} (hg : isGraph n xs = true) (hX : isGraph (n + 1) (xs ++ newRows n cs) = true) : withoutG (n + 1) (xs ++ newRows n cs) n = (n, xs, true) := by
 have hn := isGraph_n hg
 unfold withoutG
 rw [show n + 1 - 1 = n by omega, wrap_id (x := n) (by omega) (by omega), if_pos ⟨hX, by omega, by omega⟩, drop_append, drop_new, List.append_nil, drop_self n xs (fun r hr => by have := isGraph_row hg hr; omega)]
theorem new_grounded {n : Int} {xs : List (List Int)} {cs : List Int} (hg : isGraph n xs = true) (ha : cs.all (inR n) = true) (hX : isGraph (n + 1) (xs ++ newRows n cs) = true) {R : Nat} (hR : iterD (n + 1) (xs ++ newRows n cs) (R + 1) = iterD (n + 1) (xs ++ newRows n cs) R) : n ∈ iterD (n + 1) (xs ++ newRows n cs) R := by
 have hn := isGraph_n hg
 refine iterD_top hX hR 1 ((iterD_mem hX 0 n).2 ⟨by omega, fun o ho => ?_⟩)
 obtain ⟨r, hr, h1, _⟩ := (mem_att hX).1 ho
 rcases List.mem_append.1 hr with h | h
 ·have := isGraph_row hg h
  omega
 ·have := new_mem hn ha h
  omega
/-- A graph's new names make a graph. -/
theorem ren_graph {n : Int} {xs : List (List Int)} {cs : List Int} (hok : renOk n xs cs) : isGraph n (sortR (xs.map (renRow cs))) = true := by
 obtain ⟨hg, hc, hall, hd⟩ := hok
 have hn := isGraph_n hg
 have key : ∀ i : Nat, i ≤ xs.length → ∃ T, isGraph n T = true ∧ T.Perm ((xs.take i).map (renRow cs)) := by
  intro i
  induction i with
  | zero =>
   intro _
   refine ⟨[], ?_, by simp⟩
   unfold isGraph rowsOk
   rw [Bool.and_true]
   exact decide_eq_true hn
  | succ i ih =>
   intro hi
   obtain ⟨T, hT, hp⟩ := ih (by omega)
   have hz : xs[i]? = some xs[i] := List.getElem?_eq_getElem (by omega)
   have hzm := List.mem_of_getElem? hz
   obtain ⟨z1, z2, z3, z4, z5⟩ := isGraph_row hg hzm
   have hx := rd_inR hall z2 (by omega : rd xs[i] 0 < cs.length)
   have hy := rd_inR hall z4 (by omega : rd xs[i] 1 < cs.length)
   have hne : [rd cs (rd xs[i] 0), rd cs (rd xs[i] 1)] ∉ T := by
    intro hm
    obtain ⟨r, hr1, hr2⟩ := List.mem_map.1 (hp.mem_iff.1 hm)
    have hrz : r = xs[i] := renRow_inj hg hc hd (List.mem_of_mem_take hr1) hzm hr2
    have hpw := graph_nodup hg
    rw [← List.take_append_drop i xs, List.pairwise_append] at hpw
    refine lexLt_irrefl r (hpw.2.2 r hr1 r ?_)
    rw [hrz, List.drop_eq_getElem_cons (show i < xs.length by omega)]
    exact List.mem_cons_self
   refine ⟨insR [rd cs (rd xs[i] 0), rd cs (rd xs[i] 1)] T, graph_ins hT hx hy hne, (insR_perm _ T).trans ?_⟩
   rw [take_at hz, List.map_append]
   exact (List.Perm.cons _ hp).trans (List.perm_append_comm (l₁ := [renRow cs xs[i]]))
 obtain ⟨T, hT, hp⟩ := key xs.length (Nat.le_refl _)
 rw [List.take_of_length_le (Nat.le_refl _)] at hp
 rw [← up_sorted T _ (graph_nodup hT) (fun r hr => by obtain ⟨a, _, rfl⟩ := List.mem_map.1 hr; rfl) hp]
 exact hT
theorem ren_mem {xs : List (List Int)} {cs : List Int} (r : List Int) : r ∈ sortR (xs.map (renRow cs)) ↔ ∃ s ∈ xs, renRow cs s = r := by
 exact (List.mergeSort_perm (xs.map (renRow cs)) _).mem_iff.trans List.mem_map
theorem ren_loops {n : Int} {xs : List (List Int)} {cs : List Int} (hok : renOk n xs cs) : loops (sortR (xs.map (renRow cs))) = loops xs := by
 obtain ⟨hg, hc, hall, hd⟩ := hok
 unfold loops
 refine Eq.trans ((List.mergeSort_perm (xs.map (renRow cs)) _).countP_eq _) ?_
 rw [List.countP_map]
 refine List.countP_congr (fun r hr => ?_)
 obtain ⟨r1, r2, r3, r4, r5⟩ := isGraph_row hg hr
 show (decide (rd cs (rd r 0) = rd cs (rd r 1)) = true) ↔ _
 rw [decide_eq_true_eq, decide_eq_true_eq]
 exact ⟨fun h => rd_inj hd r2 (by omega) r4 (by omega) h, fun h => by rw [h]⟩
theorem att_ren {n : Int} {xs : List (List Int)} {cs : List Int} (hok : renOk n xs cs) {c : Int} (c0 : 0 ≤ c) (c1 : c < n) (q : Int) : q ∈ attackers n (sortR (xs.map (renRow cs))) (rd cs c) ↔ ∃ a ∈ attackers n xs c, rd cs a = q := by
 have hY := ren_graph hok
 obtain ⟨hg, hc, hall, hd⟩ := hok
 rw [mem_att hY]
 constructor
 ·rintro ⟨r, hr, h1, h2⟩
  obtain ⟨s, hs, rfl⟩ := (ren_mem r).1 hr
  obtain ⟨s1, s2, s3, s4, s5⟩ := isGraph_row hg hs
  exact ⟨rd s 0, (mem_att hg).2 ⟨s, hs, rd_inj hd s4 (by omega) c0 (by omega) h1, rfl⟩, h2⟩
 ·rintro ⟨a, ha, rfl⟩
  obtain ⟨s, hs, h1, h2⟩ := (mem_att hg).1 ha
  exact ⟨renRow cs s, (ren_mem _).2 ⟨s, hs, rfl⟩, by show rd cs (rd s 1) = _; rw [h1], by show rd cs (rd s 0) = _; rw [h2]⟩
theorem att_range {n : Int} {xs : List (List Int)} (hg : isGraph n xs = true) {a c : Int} (h : a ∈ attackers n xs c) : 0 ≤ a ∧ a < n := by
 obtain ⟨s, hs, _, h2⟩ := (mem_att hg).1 h
 have := isGraph_row hg hs
 omega
theorem iterD_ren {n : Int} {xs : List (List Int)} {cs : List Int} (hok : renOk n xs cs) : ∀ (r : Nat) (c : Int), 0 ≤ c → c < n → (rd cs c ∈ iterD n (sortR (xs.map (renRow cs))) r ↔ c ∈ iterD n xs r) := by
 have hY := ren_graph hok
 have hg := hok.1
 have hn := isGraph_n hg
 intro r
 induction r with
 | zero => intro c _ _; simp [iterD]
 | succ r ih =>
  intro c c0 c1
  have hin := of_decide_eq_true (rd_inR hok.2.2.1 c0 (by have := hok.2.1; omega : c < cs.length))
  rw [wrap_id (by omega) (by omega)] at hin
  rw [iterD_mem hY, iterD_mem hg]
  constructor
  ·rintro ⟨_, h⟩
   refine ⟨⟨c0, c1⟩, fun o ho => ?_⟩
   obtain ⟨o0, o1⟩ := att_range hg ho
   obtain ⟨q, h1, h2⟩ := h _ ((att_ren hok c0 c1 _).2 ⟨o, ho, rfl⟩)
   obtain ⟨a, h3, rfl⟩ := (att_ren hok o0 o1 q).1 h2
   obtain ⟨a0, a1⟩ := att_range hg h3
   exact ⟨a, (ih a a0 a1).1 h1, h3⟩
  ·rintro ⟨_, h⟩
   refine ⟨by omega, fun o' ho' => ?_⟩
   obtain ⟨o, ho, rfl⟩ := (att_ren hok c0 c1 o').1 ho'
   obtain ⟨o0, o1⟩ := att_range hg ho
   obtain ⟨q, h1, h2⟩ := h o ho
   obtain ⟨q0, q1⟩ := att_range hg h2
   exact ⟨rd cs q, (ih q q0 q1).2 h1, (att_ren hok o0 o1 _).2 ⟨q, h2, rfl⟩⟩
/-- The first of d sets from i on that holds c. -/
def fstR (f : Nat → List Int) (c : Int) : Nat → Nat → Int
 | 0, _ => -1
 | d + 1, i => if c ∈ f i then (i : Int) else fstR f c d (i + 1)
theorem fstR_same (f g : Nat → List Int) (c e : Int) (h : ∀ r, c ∈ f r ↔ e ∈ g r) : ∀ d i, fstR f c d i = fstR g e d i := by
 intro d
 induction d with
 | zero => exact fun _ => rfl
 | succ d ih =>
  intro i
  unfold fstR
  by_cases hc : c ∈ f i
  ·rw [if_pos hc, if_pos ((h i).1 hc)]
  ·rw [if_neg hc, if_neg (fun h2 => hc ((h i).2 h2)), ih]
theorem fstR_ext (f : Nat → List Int) (c : Int) (e : Nat) : ∀ d i, (∀ r, i + d ≤ r → c ∈ f r → ∃ s, i ≤ s ∧ s < i + d ∧ c ∈ f s) → fstR f c (d + e) i = fstR f c d i := by
 intro d
 induction d with
 | zero =>
  intro i h
  have no : ∀ e i', i ≤ i' → fstR f c e i' = -1 := by
   intro e
   induction e with
   | zero => exact fun _ _ => rfl
   | succ e ih =>
    intro i' h1
    unfold fstR
    rw [if_neg (fun h2 => by obtain ⟨s, h3, h4, _⟩ := h i' (by omega) h2; omega), ih (i' + 1) (by omega)]
  rw [Nat.zero_add, no e i (Nat.le_refl _)]
  rfl
 | succ d ih =>
  intro i h
  rw [show d + 1 + e = (d + e) + 1 by omega]
  unfold fstR
  by_cases hc : c ∈ f i
  ·rw [if_pos hc, if_pos hc]
  ·rw [if_neg hc, if_neg hc]
   refine ih (i + 1) (fun r h1 h2 => ?_)
   obtain ⟨s, h3, h4, h5⟩ := h r (by omega) h2
   refine ⟨s, ?_, by omega, h5⟩
   rcases Nat.lt_or_ge i s with h6 | h6
   ·omega
   ·exact absurd ((show s = i by omega) ▸ h5) hc
theorem inRnd_ev (f : Nat → List Int) (R : Nat) (hR : R ≤ 20) (hf : ∀ i, (f i).length ≤ 10) (c : Int) : ∀ d i, i + d = R + 1 → Ev (fun k => inRnd.l0 k ((List.range (R + 1)).map f) c (i : Int)) (fstR f c d i) := by
 have hl : ((List.range (R + 1)).map f).length = R + 1 := by simp
 intro d
 induction d with
 | zero =>
  intro i h
  refine Ev.step (fun k => by rw [inRnd.l0]) ?_
  exact ev_neg (by rw [hl]; omega) (Ev.now _)
 | succ d ih =>
  intro i h
  have hr : rd_L2 ((List.range (R + 1)).map f) (i : Int) = f i := getD_at (by rw [List.getElem?_map, List.getElem?_range (by omega)]; rfl)
  refine Ev.step (fun k => by rw [inRnd.l0]) ?_
  refine ev_pos (by rw [hl]; omega) (ev_pos (by omega) ?_)
  rw [hr, wrap_id (x := (i : Int) + 1) (by omega) (by omega)]
  have := hf i
  unfold fstR
  refine Ev.bind (containsInt_ev (f i) c (by omega)) ?_
  by_cases hc : c ∈ f i
  ·rw [if_pos hc]
   exact ev_pos (decide_eq_true hc) (Ev.now _)
  ·rw [if_neg hc]
   exact ev_neg (by simpa using hc) (ih (i + 1) (by omega))
theorem roundOf_ev (n : Int) (xs : List (List Int)) (hg : isGraph n xs = true) (hn : xs.length ≤ 1048576) (c : Int) : Ev (fun k => impl_RoundOf.f k n xs c) (fstR (iterD n xs) c 21 0) := by
 obtain ⟨R, h1, h2, h3⟩ := rounds_l0 n xs hg hn 11 0 (by omega) (by omega)
 have h4 : Ev (fun k => impl_rounds.f k n xs) ((List.range (R + 1)).map (iterD n xs)) := by
  unfold impl_rounds.f
  exact ev_bind0 rfl (Ev.bind (isGraph_impl n xs hn) (ev_pos hg h3))
 have h5 := inRnd_ev (iterD n xs) R h2 (fun i => iterD_len i) c (R + 1) 0 (by omega)
 rw [← fstR_ext (iterD n xs) c (20 - R) (R + 1) 0 (fun r h6 h7 => ⟨R, by omega, by omega, iterD_top hg h1 r h7⟩), show R + 1 + (20 - R) = 21 by omega] at h5
 exact Ev.bind h4 (Ev.bind h5 (Ev.now _))
theorem l4Draw_g (b : List Int) (hb : b.length ≤ 1048576) (n : Int) (h1 : 1 ≤ n) : ∀ (d : Nat) (S : List (List Int)) (i h : Int), isGraph n S = true → Cur b i → S.length + d ≤ 1000 → ∃ T i2 h2, Ev (fun k => spec_l4Draw.l0 k (d : Int) b i h n S) (n, T, i2, h2) ∧ isGraph n T = true ∧ T.length ≤ S.length + d ∧ Cur b i2 := by
 intro d
 induction d with
 | zero =>
  intro S i h hg hc hl
  exact ⟨_, _, _, Ev.step (fun k => by rw [spec_l4Draw.l0]) (ev_neg (by omega) (Ev.now _)), hg, Nat.le_refl _, hc⟩
 | succ d ih =>
  intro S i h hg hc hl
  obtain ⟨x, i2, h2, e2, _, _, _, hc2⟩ := l1Below_ok b i h n hc hb
  obtain ⟨y, i3, h3, e3, _, _, _, hc3⟩ := l1Below_ok b i2 h2 n hc2 hb
  obtain ⟨T, a, eA, hT, hlT⟩ := addAttack_any n x y S hg (by omega)
  obtain ⟨U, i4, h4, e4, hU0, hU, hc4⟩ := ih T i3 h3 hT hc3 (by omega)
  refine ⟨U, i4, h4, Ev.step (fun k => by rw [spec_l4Draw.l0]) (ev_pos (by omega) (ev_bind0 e2 (ev_bind0 e3 (Ev.bind eA ?_)))), hU0, by omega, hc4⟩
  rw [wrap_id (by omega) (by omega), show ((d + 1 : Nat) : Int) - 1 = (d : Int) by omega]
  exact e4
theorem l4Any_full (b : List Int) (hb : b.length ≤ 1048576) (i h : Int) (hc : Cur b i) : ∃ m T i2 h2, Ev (fun k => spec_l4Any.f k b i h) (m, T, i2, h2) ∧ T.length ≤ 100 ∧ (∀ y ∈ T, y.length ≤ 1048576) ∧ Cur b i2 := by
 obtain ⟨x, i2, h2, e2, hx0, hx1, _, hc2⟩ := l1Below_ok b i h 6 hc hb
 obtain ⟨y, i3, h3, e3, hy0, hy1, _, hc3⟩ := l1Below_ok b i2 h2 10 hc2 hb
 have hx := hx1 (by decide)
 have hy := hy1 (by decide)
 have hg : isGraph (1 + x) [] = true := by
  unfold isGraph
  rw [decide_eq_true (by omega)]
  rfl
 obtain ⟨T, i4, h4, e4, hTg, hT, hc4⟩ := l4Draw_g b hb (1 + x) (by omega) y.toNat [] i3 h3 hg hc3 (by first | (simp; done) | (simp; omega))
 have hT2 : T.length ≤ 10 := by simp at hT; omega
 have hT3 : ∀ y ∈ T, y.length ≤ 1048576 := fun y hy => by have := (isGraph_row hTg hy).1; omega
 have eD : Ev (fun k => spec_l4Draw.f k b i h) (1 + x, T, i4, h4) := by
  unfold spec_l4Draw.f
  refine ev_bind0 e2 (ev_bind0 e3 ?_)
  dsimp only
  rw [wrap_id (x := 1 + x) (by omega) (by omega)]
  rw [show ((y.toNat : Nat) : Int) = y by omega] at e4
  exact e4
 have fin : ∀ n U a g, Ev (fun k => spec_l4Any.j0 k b a g n U) (n, U, a, g) := fun n U a g => Ev.step (fun k => by rw [spec_l4Any.j0]) (Ev.now _)
 have more : ∀ r : List Int, r.length ≤ 1048576 → (T ++ [r]).length ≤ 100 ∧ ∀ y ∈ T ++ [r], y.length ≤ 1048576 := by
  intro r hr
  refine ⟨by rw [List.length_append, List.length_singleton]; omega, fun y hy => ?_⟩
  rcases List.mem_append.1 hy with h | h
  ·exact hT3 y h
  ·rw [List.mem_singleton.1 h]; exact hr
 obtain ⟨z, i5, h5, e5, _, _, _, hc5⟩ := l1Below_ok b i4 h4 14 hc4 hb
 by_cases z0 : z = 0
 ·obtain ⟨r, i6, h6, e6, _, hc6⟩ := l4Raw_ok b i5 h5 hc5 hb
  exact ⟨_, _, _, _, Ev.bind eD (ev_bind0 e5 (ev_pos z0 (ev_bind0 e6 (fin _ _ _ _)))), show T.length ≤ 100 by omega, hT3, hc6⟩
 ·by_cases z1 : z = 1
  ·exact ⟨_, _, _, _, Ev.bind eD (ev_bind0 e5 (ev_neg z0 (ev_pos z1 (ev_pos (show T.length < 5864062014805 by omega) (fin _ _ _ _))))), (more [0] (by simp)).1, (more [0] (by simp)).2, hc5⟩
  ·by_cases z2 : z = 2
   ·obtain ⟨p, i6, h6, e6, _, _, _, hc6⟩ := l1Below_ok b i5 h5 7 hc5 hb
    obtain ⟨q, i7, h7, e7, _, _, _, hc7⟩ := l1Below_ok b i6 h6 7 hc6 hb
    exact ⟨_, _, _, _, Ev.bind eD (ev_bind0 e5 (ev_neg z0 (ev_neg z1 (ev_pos z2 (ev_bind0 e6 (ev_bind0 e7 (ev_pos (show T.length < 5864062014805 by omega) (fin _ _ _ _)))))))), (more [p, q] (by simp)).1, (more [p, q] (by simp)).2, hc7⟩
   ·exact ⟨_, _, _, _, Ev.bind eD (ev_bind0 e5 (ev_neg z0 (ev_neg z1 (ev_neg z2 (fin _ _ _ _))))), show T.length ≤ 100 by omega, hT3, hc5⟩
theorem min12 (n : Int) : ∃ t, spec_Min.f 12 n = some t ∧ t ≤ 12 := by
 unfold spec_Min.f
 by_cases h : n < 12
 ·exact ⟨n, if_pos h, by omega⟩
 ·exact ⟨12, if_neg h, by omega⟩
theorem l4Set_l0 (b : List Int) (hb : b.length ≤ 1048576) (n : Int) (xs : List (List Int)) (t : Int) (ht : spec_Min.f 12 n = some t) (ht2 : t ≤ 12) : ∀ (d i : Nat) (cs : List Int) (a g : Int), 12 ≤ i + d → i ≤ 12 → cs.length ≤ i → Cur b a → ∃ l a2 g2, Ev (fun k => spec_l4Set.l0 k cs (i : Int) b a g n xs) (l, a2, g2) ∧ l.length ≤ 12 ∧ Cur b a2 := by
 intro d
 induction d with
 | zero =>
  intro i cs a g h h2 hl hc
  exact ⟨cs, a, g, Ev.step (fun k => by rw [spec_l4Set.l0]) (ev_bind0 ht (ev_neg (show ¬ (i : Int) < t by omega) (Ev.now _))), by omega, hc⟩
 | succ d ih =>
  intro i cs a g h h2 hl hc
  by_cases hi : (i : Int) < t
  ·have hw : wrap64 ((i : Int) + 1) = ((i + 1 : Nat) : Int) := by rw [wrap_id (by omega) (by omega)]; rfl
   obtain ⟨r, a2, g2, e, hc2⟩ := l1Once_ok b a g 3 hc hb
   cases r with
   | true =>
    obtain ⟨l, a3, g3, e3, h3⟩ := ih (i + 1) (cs ++ [(i : Int)]) a2 g2 (by omega) (by omega) (by rw [List.length_append, List.length_singleton]; omega) hc2
    refine ⟨l, a3, g3, Ev.step (fun k => by rw [spec_l4Set.l0]) (ev_bind0 ht (ev_pos hi (ev_bind0 e (ev_pos rfl (ev_pos (show cs.length < 17592186044416 by omega) ?_))))), h3⟩
    rw [hw]
    exact e3
   | false =>
    obtain ⟨l, a3, g3, e3, h3⟩ := ih (i + 1) cs a2 g2 (by omega) (by omega) (by omega) hc2
    refine ⟨l, a3, g3, Ev.step (fun k => by rw [spec_l4Set.l0]) (ev_bind0 ht (ev_pos hi (ev_bind0 e (ev_neg Bool.false_ne_true ?_)))), h3⟩
    rw [hw]
    exact e3
  ·exact ⟨cs, a, g, Ev.step (fun k => by rw [spec_l4Set.l0]) (ev_bind0 ht (ev_neg hi (Ev.now _))), by omega, hc⟩
theorem l4Set_ok (b : List Int) (hb : b.length ≤ 1048576) (a g n : Int) (xs : List (List Int)) (hc : Cur b a) : ∃ l a2 g2, Ev (fun k => spec_l4Set.f k b a g n xs) (l, a2, g2) ∧ l.length ≤ 12 ∧ Cur b a2 := by
 obtain ⟨t, ht, ht2⟩ := min12 n
 exact l4Set_l0 b hb n xs t ht ht2 12 0 [] a g (by omega) (by omega) (by simp) hc
theorem drawHit_ok (b : List Int) (hb : b.length ≤ 1048576) : ∃ n xs cs, Ev (fun k => spec_DrawHitBy.f k b) (n, xs, cs) ∧ xs.length ≤ 100 ∧ (∀ y ∈ xs, y.length ≤ 1048576) ∧ cs.length ≤ 12 := by
 obtain ⟨h1, e1, hc1⟩ := l1New_ok b hb
 obtain ⟨m, T, i2, h2, e2, hT, hT2, hc2⟩ := l4Any_full b hb 0 h1 hc1
 obtain ⟨l, i3, h3, e3, hl, _⟩ := l4Set_ok b hb i2 h2 m T hc2
 exact ⟨m, T, l, Ev.bind e1 (Ev.bind e2 (Ev.bind e3 (Ev.now _))), hT, hT2, hl⟩
theorem drawWith_ok (b : List Int) (hb : b.length ≤ 1048576) : ∃ n xs cs, Ev (fun k => spec_DrawWithClaim.f k b) (n, xs, cs) ∧ xs.length ≤ 100 ∧ (∀ y ∈ xs, y.length ≤ 1048576) ∧ cs.length ≤ 13 := by
 obtain ⟨n, xs, cs, e, hx, hi, hl⟩ := drawHit_ok b hb
 obtain ⟨h1, e1, hc1⟩ := l1New_ok b hb
 obtain ⟨r, i2, h2, e2, hc2⟩ := l1Once_ok b 0 h1 8 hc1 hb
 have fin : ∀ l, Ev (fun k => spec_DrawIsSet.j0 k l n xs) (n, xs, l) := fun l => Ev.step (fun k => by rw [spec_DrawIsSet.j0]) (Ev.now _)
 cases r with
 | true =>
  obtain ⟨q, i3, h3, e3, _⟩ := l1Below_ok b i2 h2 8 hc2 hb
  exact ⟨n, xs, cs ++ [q], Ev.bind (Ev.bind e (Ev.bind e1 (ev_bind0 e2 (ev_pos rfl (ev_bind0 e3 (ev_pos (show cs.length < 17592186044416 by omega) (fin _))))))) (Ev.now _), hx, hi, by rw [List.length_append, List.length_singleton]; omega⟩
 | false => exact ⟨n, xs, cs, Ev.bind (Ev.bind e (Ev.bind e1 (ev_bind0 e2 (ev_neg Bool.false_ne_true (fin _))))) (Ev.now _), hx, hi, by omega⟩
theorem drawRen_l0 (b : List Int) (hb : b.length ≤ 1048576) (n : Int) (xs : List (List Int)) (t : Int) (ht : spec_Min.f 12 n = some t) (ht2 : t ≤ 12) : ∀ (d i : Nat) (cs : List Int) (a g : Int), 12 ≤ i + d → i ≤ 12 → cs.length = i → Cur b a → ∃ l, Ev (fun k => spec_DrawRenamed.l0 k cs (i : Int) b a g n xs) (n, xs, l) ∧ l.length ≤ 12 := by
 have fin : ∀ l, Ev (fun k => spec_DrawRenamed.j1 k l n xs) (n, xs, l) := fun l => Ev.step (fun k => by rw [spec_DrawRenamed.j1]) (Ev.now _)
 have out : ∀ (i : Nat) (cs : List Int) (a g : Int), i ≤ 12 → cs.length = i → Cur b a → ¬ (i : Int) < t → ∃ l, Ev (fun k => spec_DrawRenamed.l0 k cs (i : Int) b a g n xs) (n, xs, l) ∧ l.length ≤ 12 := by
  intro i cs a g h2 hl hc hi
  by_cases h0 : (cs.length : Int) > 0
  ·obtain ⟨r, a2, g2, e, hc2⟩ := l1Once_ok b a g 8 hc hb
   cases r with
   | true =>
    obtain ⟨q, i3, h3, e3, _⟩ := l1Below_ok b a2 g2 7 hc2 hb
    exact ⟨cs.set (0 : Int).toNat q, Ev.step (fun k => by rw [spec_DrawRenamed.l0]) (ev_bind0 ht (ev_neg hi (ev_pos h0 (ev_bind0 e (ev_pos rfl (ev_bind0 e3 (ev_pos (show 0 < (cs.length : Int) by omega) (fin _)))))))), by rw [List.length_set]; omega⟩
   | false => exact ⟨cs, Ev.step (fun k => by rw [spec_DrawRenamed.l0]) (ev_bind0 ht (ev_neg hi (ev_pos h0 (ev_bind0 e (ev_neg Bool.false_ne_true (fin _)))))), by omega⟩
  ·exact ⟨cs, Ev.step (fun k => by rw [spec_DrawRenamed.l0]) (ev_bind0 ht (ev_neg hi (ev_neg h0 (Ev.now _)))), by omega⟩
 intro d
 induction d with
 | zero => intro i cs a g h h2 hl hc; exact out i cs a g h2 hl hc (by omega)
 | succ d ih =>
  intro i cs a g h h2 hl hc
  by_cases hi : (i : Int) < t
  ·have hw : wrap64 ((i : Int) + 1) = ((i + 1 : Nat) : Int) := by rw [wrap_id (by omega) (by omega)]; rfl
   obtain ⟨q, a2, g2, e, q0, q1, _, hc2⟩ := l1Below_ok b a g ((i + 1 : Nat) : Int) hc hb
   have hq := q1 (by omega)
   have ht1 : (cs.take q.toNat).length = q.toNat := by rw [List.length_take]; omega
   have ht2 : (cs.drop q.toNat).length = i - q.toNat := by rw [List.length_drop]; omega
   obtain ⟨l, e3, h3⟩ := ih (i + 1) ((([] ++ cs.take q.toNat) ++ [(i : Int)]) ++ cs.drop q.toNat) a2 g2 (by omega) (by omega) (by rw [List.length_append, List.length_append, List.nil_append, ht1, ht2, List.length_singleton]; omega) hc2
   refine ⟨l, Ev.step (fun k => by rw [spec_DrawRenamed.l0]) (ev_bind0 ht (ev_pos hi ?_)), h3⟩
   rw [hw]
   refine ev_bind0 e (ev_bind0 rfl (ev_pos q0 (ev_pos (show q ≤ (cs.length : Int) by omega) (ev_bind0 rfl (ev_pos ?_ (ev_bind0 rfl (ev_bind0 rfl (ev_pos ?_ (ev_bind0 rfl (ev_pos ?_ e3))))))))))
   ·show ([] : List Int).length + (cs.take q.toNat).length < _
    rw [ht1, List.length_nil]; omega
   ·show ([] ++ cs.take q.toNat).length + ([(i : Int)] : List Int).length < _
    rw [List.nil_append, ht1, List.length_singleton]; omega
   ·show (([] ++ cs.take q.toNat) ++ [(i : Int)]).length + (cs.drop q.toNat).length < _
    rw [List.length_append, List.nil_append, ht1, ht2, List.length_singleton]; omega
  ·exact out i cs a g h2 hl hc hi
theorem drawRen_ok (b : List Int) (hb : b.length ≤ 1048576) : ∃ n xs l, Ev (fun k => spec_DrawRenamed.f k b) (n, xs, l) ∧ xs.length ≤ 100 ∧ (∀ y ∈ xs, y.length ≤ 1048576) ∧ l.length ≤ 12 := by
 obtain ⟨h1, e1, hc1⟩ := l1New_ok b hb
 obtain ⟨m, T, i2, h2, e2, hT, hT2, hc2⟩ := l4Any_full b hb 0 h1 hc1
 obtain ⟨t, ht, ht2⟩ := min12 m
 obtain ⟨l, e3, hl⟩ := drawRen_l0 b hb m T t ht ht2 12 0 [] i2 h2 (by omega) (by omega) rfl hc2
 exact ⟨m, T, l, Ev.bind e1 (Ev.bind e2 e3), hT, hT2, hl⟩
theorem withG_small (n : Int) (xs : List (List Int)) (cs : List Int) (hn : xs.length ≤ 100) (hi : ∀ y ∈ xs, y.length ≤ 1048576) (ha : cs.length ≤ 13) : (withG n xs cs).2.1.length ≤ 1000 ∧ ∀ y ∈ (withG n xs cs).2.1, y.length ≤ 1048576 := by
 refine ⟨?_, (withG_size n xs cs (by omega) hi (by omega)).2⟩
 unfold withG
 split
 ·show (xs ++ newRows n cs).length ≤ 1000
  rw [List.length_append, newRows_length]
  omega
 ·show xs.length ≤ 1000
  omega
theorem drawPart_ok (b : List Int) (hb : b.length ≤ 1048576) : ∃ n xs m ys, Ev (fun k => spec_DrawIsPartOf.f k b) (n, xs, m, ys) ∧ xs.length ≤ 1000 ∧ (∀ y ∈ xs, y.length ≤ 1048576) ∧ ys.length ≤ 1000 := by
 obtain ⟨h1, e1, hc1⟩ := l1New_ok b hb
 obtain ⟨n, xs, i2, h2, e2, hT, hT2, hc2⟩ := l4Any_full b hb 0 h1 hc1
 obtain ⟨l, i3, h3, e3, hl, hc3⟩ := l4Set_ok b hb i2 h2 n xs hc2
 have e4 := withClaim_spec n xs l (by omega) hT2 (by omega)
 obtain ⟨r, i5, h5, e5, hc5⟩ := l1Once_ok b i3 h3 4 hc3 hb
 have fin : ∀ m ys, Ev (fun k => spec_DrawIsPartOf.j0 k n xs m ys) (n, xs, m, ys) := fun m ys => Ev.step (fun k => by rw [spec_DrawIsPartOf.j0]) (Ev.now _)
 cases r with
 | true =>
  obtain ⟨m, U, i6, h6, e6, hU, _, _⟩ := l4Any_full b hb i5 h5 hc5
  exact ⟨n, xs, m, U, Ev.bind e1 (Ev.bind e2 (Ev.bind e3 (Ev.bind e4 (ev_bind0 e5 (ev_pos rfl (Ev.bind e6 (fin _ _))))))), by omega, hT2, by omega⟩
 | false => exact ⟨n, xs, _, _, Ev.bind e1 (Ev.bind e2 (Ev.bind e3 (Ev.bind e4 (ev_bind0 e5 (ev_neg Bool.false_ne_true (fin _ _)))))), by omega, hT2, (withG_small n xs l hT hT2 (by omega)).1⟩
theorem disputes_last (b : List Int) (hb : b.length ≤ 1048576) : Ev (fun k => laws_FnDisputes.j2 k b) true := by
 obtain ⟨n, xs, m, ys, e, hx, hi, hy⟩ := drawPart_ok b hb
 refine Ev.step (fun k => by rw [laws_FnDisputes.j2]) (Ev.bind e (Ev.bind (part_val n m xs ys (by omega) hi (by omega)) (ev_ite (fun h => ev_eq (Ev.now _) ?_) (fun _ => Ev.now _))))
 unfold partV at h
 obtain ⟨_, h⟩ := Bool.and_eq_true_iff.1 h
 obtain ⟨_, h⟩ := Bool.and_eq_true_iff.1 h
 exact (Bool.and_eq_true_iff.1 h).1
theorem disputes_l0 (b : List Int) (hb : b.length ≤ 1048576) (n : Int) (xs : List (List Int)) (cs : List Int) (hok : renOk n xs cs) (hn : xs.length ≤ 1000) {R1 R2 : Nat} (h1 : iterD n xs (R1 + 1) = iterD n xs R1) (h2 : iterD n (sortR (xs.map (renRow cs))) (R2 + 1) = iterD n (sortR (xs.map (renRow cs))) R2) : ∀ d i : Nat, i + d = cs.length → Ev (fun k => laws_FnDisputes.l0 k b cs (iterD n xs R1) (iterD n (sortR (xs.map (renRow cs))) R2) (i : Int) n xs n (sortR (xs.map (renRow cs)))) true := by
 have hY := ren_graph hok
 have hg := hok.1
 have hb2 := isGraph_n hg
 have hc := hok.2.1
 have hYl : (sortR (xs.map (renRow cs))).length ≤ 1048576 := by rw [sortR_len, List.length_map]; omega
 intro d
 induction d with
 | zero =>
  intro i h
  exact Ev.step (fun k => by rw [laws_FnDisputes.l0]) (ev_neg (by omega) (disputes_last b hb))
 | succ d ih =>
  intro i h
  have hren := fun r => iterD_ren hok r (i : Int) (by omega) (by omega)
  have hsame : decide ((i : Int) ∈ iterD n xs R1) = decide (rd cs (i : Int) ∈ iterD n (sortR (xs.map (renRow cs))) R2) := by
   rw [decide_eq_decide]
   exact ⟨fun h3 => iterD_top hY h2 R1 ((hren R1).2 h3), fun h3 => iterD_top hg h1 R2 ((hren R2).1 h3)⟩
  have l1 := iterD_len (n := n) (xs := xs) R1
  have l2 := iterD_len (n := n) (xs := sortR (xs.map (renRow cs))) R2
  have hne : ¬ ((decide ((i : Int) ∈ iterD n xs R1) != decide (rd cs (i : Int) ∈ iterD n (sortR (xs.map (renRow cs))) R2)) = true) := by rw [hsame]; simp
  have hst := fstR_same (iterD n xs) (iterD n (sortR (xs.map (renRow cs)))) (i : Int) (rd cs (i : Int)) (fun r => (hren r).symm) 21 0
  refine Ev.step (fun k => by rw [laws_FnDisputes.l0]) ?_
  refine ev_pos (by omega) (Ev.bind (containsL_ev (iterD n xs R1) (i : Int) (by omega)) (ev_pos (by omega) (Ev.bind (containsL_ev (iterD n (sortR (xs.map (renRow cs))) R2) (rd cs (i : Int)) (by omega)) (ev_neg hne (Ev.bind (roundOf_ev n xs hg (by omega) (i : Int)) (Ev.bind (roundOf_ev n _ hY hYl (rd cs (i : Int))) (ev_pos hst ?_)))))))
  rw [wrap_id (x := (i : Int) + 1) (by omega) (by omega)]
  exact ih (i + 1) (by omega)
theorem disputes_j0 (b : List Int) (hb : b.length ≤ 1048576) : Ev (fun k => laws_FnDisputes.j0 k b) true := by
 obtain ⟨n, xs, cs, e, hx, hi, hl⟩ := drawRen_ok b hb
 refine Ev.step (fun k => by rw [laws_FnDisputes.j0]) (Ev.bind e (Ev.bind (renamed_impl n xs cs (by omega) hi (by omega)) ?_))
 by_cases hok : renOk n xs cs
 ·have hY := ren_graph hok
  have hg := hok.1
  have hYl : (sortR (xs.map (renRow cs))).length ≤ 1048576 := by rw [sortR_len, List.length_map]; omega
  rw [show renG n xs cs = (n, sortR (xs.map (renRow cs)), true) from if_pos hok]
  obtain ⟨G, eG, _, hG, _⟩ := grounded_impl n xs (by omega)
  obtain ⟨H, eH, _, hH, _⟩ := grounded_impl n (sortR (xs.map (renRow cs))) hYl
  obtain ⟨R1, h1, rfl⟩ := hG hg
  obtain ⟨R2, h2, rfl⟩ := hH hY
  have eC := countLoops_impl n xs (by omega)
  have eD := countLoops_impl n (sortR (xs.map (renRow cs))) hYl
  rw [if_pos hg] at eC
  rw [if_pos hY, ren_loops hok] at eD
  refine ev_pos rfl (Ev.bind eC (Ev.bind eD (ev_pos rfl (ev_pos ?_ (Ev.bind eG (Ev.bind eH (disputes_l0 b hb n xs cs hok (by omega) h1 h2 cs.length 0 (by omega))))))))
  show (xs.length : Int) = ((sortR (xs.map (renRow cs))).length : Int)
  rw [sortR_len, List.length_map]
 ·rw [show renG n xs cs = (n, xs, false) from if_neg hok]
  exact ev_neg Bool.false_ne_true (disputes_last b hb)
theorem FnDisputes (l0 : List Int) (g0 : l0.length ≤ 9223372036854775807 ∧ ∀ y ∈ l0, (Lit.int .u8 y).wf = true) : ∃ k, laws_FnDisputes.f k l0 = some true := by
 refine Ev.rounds (g := fun k => laws_FnDisputes.f k l0) ?_
 unfold laws_FnDisputes.f
 by_cases hbig : (l0.length : Int) > 1048576
 ·exact ev_bind0 (big_eq l0) (ev_pos (decide_eq_true hbig) (Ev.now _))
 have hb : l0.length ≤ 1048576 := by omega
 refine ev_bind0 (big_eq l0) (ev_neg (by simpa using hbig) ?_)
 obtain ⟨n, xs, cs, e, hx, hi, hl⟩ := drawWith_ok l0 hb
 refine Ev.bind e (Ev.bind (withClaim_impl n xs cs (by omega) hi (by omega)) (Ev.bind (withClaim_spec n xs cs (by omega) hi (by omega)) (ev_neg (by simp) ?_)))
 cases hw : (withG n xs cs).2.2 with
 | false => exact ev_neg Bool.false_ne_true (disputes_j0 l0 hb)
 | true =>
  obtain ⟨hg, ha, hX, hE⟩ := withG_true hw
  have hs := withG_small n xs cs hx hi (by omega)
  rw [hE] at hs ⊢
  obtain ⟨hs1, hs2⟩ := hs
  dsimp only at hs1 hs2 ⊢
  have hn := isGraph_n hg
  have p1 := part_val n (n + 1) xs (xs ++ newRows n cs) (by omega) hi (by omega)
  have p2 := part_val n n xs xs (by omega) hi (by omega)
  rw [show partV n (n + 1) xs (xs ++ newRows n cs) = true by unfold partV; rw [hg, hX, inner_new hg ha, decide_eq_true (show n ≤ n + 1 by omega)]; simp] at p1
  rw [show partV n n xs xs = true by unfold partV; rw [hg, inner_self hg, decide_eq_true (show n ≤ n by omega)]; simp] at p2
  have eV := victims_impl (n + 1) (xs ++ newRows n cs) n (by omega)
  rw [victims_new hg ha hX] at eV
  have eS := sameInts_ev cs cs (by omega)
  rw [decide_eq_true rfl] at eS
  have eW := without_impl (n + 1) (xs ++ newRows n cs) n (by omega) hs2
  rw [without_new hg hX] at eW
  have eI := isGraph_impl (n + 1) (xs ++ newRows n cs) (by omega)
  rw [hX] at eI
  obtain ⟨G, eG, hGl, hG, _⟩ := grounded_impl (n + 1) (xs ++ newRows n cs) (by omega)
  obtain ⟨R, hR, rfl⟩ := hG hX
  have eC := containsL_ev (iterD (n + 1) (xs ++ newRows n cs) R) n (by omega)
  rw [decide_eq_true (new_grounded hg ha hX hR)] at eC
  refine ev_pos rfl (Ev.bind eW ?_)
  dsimp only
  exact Ev.bind eI (ev_pos rfl (Ev.bind p1 (ev_pos rfl (Ev.bind eV (Ev.bind eS (ev_pos rfl (ev_pos rfl (Ev.bind p2 (ev_pos rfl (Ev.bind p2 (ev_pos rfl (Ev.bind eG (Ev.bind eC (ev_pos rfl (disputes_j0 l0 hb)))))))))))))))

end Go.Proofs.Ytdlobolnajcfnaa.Pure
