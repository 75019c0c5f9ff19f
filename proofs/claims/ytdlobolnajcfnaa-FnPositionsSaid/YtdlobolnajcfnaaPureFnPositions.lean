/- The plain statement of the law FnPositions, for all numbers and lists. -/
import Derived.Test.YtdlobolnajcfnaaPFnPositionsx0
import Derived.Test.YtdlobolnajcfnaaPFnPositionsx1
import Derived.Test.YtdlobolnajcfnaaPFnPositionsx2
import Derived.Test.YtdlobolnajcfnaaPFnPositionsx3
import Derived.Test.YtdlobolnajcfnaaPFnPositionsx4
import Derived.Test.YtdlobolnajcfnaaPFnPositionsx5
import Derived.Test.YtdlobolnajcfnaaPFnPositionsx6
import Derived.Test.YtdlobolnajcfnaaPFnPositionsx7
import Derived.Test.YtdlobolnajcfnaaPFnPositionsx8
import Derived.Test.YtdlobolnajcfnaaPFnPositionsx9
import Derived.Test.YtdlobolnajcfnaaPFnPositionsx10
import Derived.Test.YtdlobolnajcfnaaPFnPositionsx11
import Derived.Test.YtdlobolnajcfnaaPFnPositionsx12
import Derived.Test.YtdlobolnajcfnaaPFnPositionsx13
import Derived.Test.YtdlobolnajcfnaaPFnPositionsx14
import Derived.Test.YtdlobolnajcfnaaPFnPositionsx15
import Derived.Test.YtdlobolnajcfnaaPFnPositionsx16
import Derived.Test.YtdlobolnajcfnaaPFnPositionsx17
import Derived.Test.YtdlobolnajcfnaaPFnPositionsx18
import Derived.Test.YtdlobolnajcfnaaBase
set_option linter.unusedVariables false
set_option linter.unusedSimpArgs false
namespace Go.Proofs.Ytdlobolnajcfnaa.Pure
open Go.RowKit Go.Proofs.Ytdlobolnajcfnaa.PFnPositions Go.Proofs.YtdlobolnajcfnaaW.PrintWords Go.Proofs.YtdlobolnajcfnaaW.PrintLast Go.Proofs.YtdlobolnajcfnaaW.PrintMore Go.Proofs.Ytdlobolnajcfnaa.Base
theorem l4Has_l0 (xs : List Int) (x : Int) (hn : xs.length ≤ 9223372036854775807) : ∀ (zs : List Int) (i : Nat), xs.drop i = zs → Ev (fun k => spec_l4Has.l0 k xs x (i : Int)) (decide (x ∈ zs)) := by
 intro zs
 induction zs with
 | nil =>
  intro i h
  have := at_end h
  exact Ev.step (fun k => by rw [spec_l4Has.l0]) (ev_neg (by omega) (ev_eq (Ev.now _) (by simp)))
 | cons z zs ih =>
  intro i h
  obtain ⟨hi, hz, h', _⟩ := at_drop h
  refine Ev.step (fun k => by rw [spec_l4Has.l0]) (ev_pos (by omega) (ev_pos (by omega) ?_))
  rw [wrap_id (by omega) (by omega), rd_get hz]
  exact ev_ite (fun e => ev_eq (Ev.now _) (by simp [e])) (fun e => ev_eq (ih (i + 1) h') (by simp [Ne.symm e]))
theorem l4Has_ev (xs : List Int) (x : Int) (hn : xs.length ≤ 9223372036854775807) : Ev (fun k => spec_l4Has.f k xs x) (decide (x ∈ xs)) := by
 unfold spec_l4Has.f
 exact l4Has_l0 xs x hn xs 0 rfl
theorem indexInt_l0 (xs : List Int) (x : Int) (hn : xs.length ≤ 9223372036854775807) : ∀ (zs : List Int) (i : Nat), xs.drop i = zs → ∃ r : Int, Ev (fun k => slices_Index_int_int.l0 k xs x xs.length (i : Int)) r ∧ (0 ≤ r ↔ x ∈ zs) := by
 intro zs
 induction zs with
 | nil =>
  intro i h
  have := at_end h
  exact ⟨-1, Ev.step (fun k => by rw [slices_Index_int_int.l0]) (ev_neg (by omega) (Ev.now _)), by simp⟩
 | cons z zs ih =>
  intro i h
  obtain ⟨hi, hz, h', _⟩ := at_drop h
  by_cases e : x = z
  ·refine ⟨i, Ev.step (fun k => by rw [slices_Index_int_int.l0]) (ev_pos (by omega) (ev_pos (by omega) (ev_pos (by omega) ?_))), by simp [e]⟩
   rw [rd_get hz]
   exact ev_pos e (Ev.now _)
  ·obtain ⟨r, hr, hm⟩ := ih (i + 1) h'
   refine ⟨r, Ev.step (fun k => by rw [slices_Index_int_int.l0]) (ev_pos (by omega) (ev_pos (by omega) (ev_pos (by omega) ?_))), by simp [e, hm]⟩
   rw [rd_get hz, wrap_id (by omega) (by omega)]
   exact ev_neg e hr
theorem containsInt_ev (xs : List Int) (x : Int) (hn : xs.length ≤ 9223372036854775807) : Ev (fun k => slices_Contains_int_int.f k xs x) (decide (x ∈ xs)) := by
 unfold slices_Contains_int_int.f slices_Index_int_int.f
 obtain ⟨r, hr, hm⟩ := indexInt_l0 xs x hn xs 0 rfl
 exact Ev.bind hr (ev_eq (Ev.now _) (decide_eq_decide.2 hm))
theorem l1In_eq (x a b : Int) : spec_l1In.f x a b = some (decide (a ≤ x ∧ x ≤ b)) := by
 unfold spec_l1In.f
 by_cases h : a ≤ x <;> simp [h]
theorem inRange_eq (x a b : Int) : impl_InRange.f x a b = some (decide (a ≤ x ∧ x ≤ b)) := by
 unfold impl_InRange.f
 by_cases h : a ≤ x <;> simp [h]

/-- Where a reader of draws stands: within its bytes. -/
def Cur (b : List Int) (i : Int) : Prop := 0 ≤ i ∧ i ≤ b.length
theorem and255 (x : Int) : 0 ≤ Go.bits .and .i64 x 255 ∧ Go.bits .and .i64 x 255 ≤ 255 := by
 have h : (BitVec.ofInt 64 x &&& BitVec.ofInt 64 255).toNat ≤ 255 := by
  rw [BitVec.toNat_and]
  have h2 : (BitVec.ofInt 64 255).toNat = 255 := by decide
  rw [h2]
  exact Nat.and_le_right
 have e : Go.bits .and .i64 x 255 = IntKind.i64.wrap ((BitVec.ofInt 64 x &&& BitVec.ofInt 64 255).toNat : Int) := rfl
 rw [e, IntKind.wrap_i64]
 omega
theorem l1Byte_ok (b : List Int) (i h : Int) (hc : Cur b i) (hb : b.length ≤ 1048576) : ∃ r i2 h2, spec_l1Byte.f b i h = some (r, i2, h2) ∧ (0 ≤ r ∧ r ≤ 255) ∧ Cur b i2 := by
 obtain ⟨hc0, hc1⟩ := hc
 unfold spec_l1Byte.f
 by_cases hi : i < (b.length : Int)
 ·rw [if_pos hi, if_pos hc0, wrap_id (x := i + 1) (by omega) (by omega)]
  exact ⟨_, _, _, rfl, and255 _, by unfold Cur; omega⟩
 ·rw [if_neg hi]
  exact ⟨_, _, _, rfl, and255 _, hc0, hc1⟩
theorem tmod_ok (x n : Int) (hx : 0 ≤ x) (hn : 0 < n) : 0 ≤ Int.tmod x n ∧ Int.tmod x n < n := by
 rw [Int.tmod_eq_emod_of_nonneg hx]
 exact ⟨Int.emod_nonneg _ (by omega), Int.emod_lt_of_pos _ hn⟩
theorem l1Below_ok (b : List Int) (i h n : Int) (hc : Cur b i) (hb : b.length ≤ 1048576) : ∃ r i2 h2, spec_l1Below.f b i h n = some (r, i2, h2) ∧ 0 ≤ r ∧ (0 < n → r < n) ∧ (n ≤ 0 → r = 0) ∧ Cur b i2 := by
 unfold spec_l1Below.f
 by_cases h0 : n ≤ 0
 ·rw [if_pos h0]
  exact ⟨_, _, _, rfl, by omega, by omega, fun _ => rfl, hc⟩
 ·rw [if_neg h0]
  by_cases h1 : n ≤ 256
  ·obtain ⟨r, i2, h2, e, hr, hc2⟩ := l1Byte_ok b i h hc hb
   rw [if_pos h1, e]
   simp only [Option.bind_some]
   rw [if_neg (by omega)]
   exact ⟨_, _, _, rfl, (tmod_ok r n hr.1 (by omega)).1, fun _ => (tmod_ok r n hr.1 (by omega)).2, by omega, hc2⟩
  ·obtain ⟨r, i2, h2, e, hr, hc2⟩ := l1Byte_ok b i h hc hb
   obtain ⟨r3, i3, h3, e3, hr3, hc3⟩ := l1Byte_ok b i2 h2 hc2 hb
   obtain ⟨r4, i4, h4, e4, hr4, hc4⟩ := l1Byte_ok b i3 h3 hc3 hb
   rw [if_neg h1, e]
   simp only [Option.bind_some]
   rw [e3]
   simp only [Option.bind_some]
   rw [e4]
   simp only [Option.bind_some]
   rw [if_neg (by omega), wrap_id (x := r * 65536) (by omega) (by omega), wrap_id (x := r3 * 256) (by omega) (by omega), wrap_id (x := r * 65536 + r3 * 256) (by omega) (by omega), wrap_id (x := r * 65536 + r3 * 256 + r4) (by omega) (by omega)]
   exact ⟨_, _, _, rfl, (tmod_ok _ n (by omega) (by omega)).1, fun _ => (tmod_ok _ n (by omega) (by omega)).2, by omega, hc4⟩
theorem l1New_l0 (b : List Int) (hb : b.length ≤ 1048576) : ∀ (zs : List Int) (i : Nat) (h : Int), b.drop i = zs → ∃ h2, Ev (fun k => spec_l1New.l0 k b h (i : Int)) (b, 0, h2) := by
 intro zs
 induction zs with
 | nil =>
  intro i h hd
  have := at_end hd
  refine ⟨h, Ev.step (fun k => by rw [spec_l1New.l0]) ?_⟩
  exact ev_neg (by omega) (Ev.now _)
 | cons z zs ih =>
  intro i h hd
  obtain ⟨hi, hz, hd2, _⟩ := at_drop hd
  by_cases h4 : (i : Int) < 4000
  ·obtain ⟨h2, hev⟩ := ih (i + 1) (Go.bits .and .i64 (wrap64 ((wrap64 ((wrap64 (h * 137)) + (wrap64 (rd b (i : Int))))) + 11)) 1073741823) hd2
   refine ⟨h2, Ev.step (fun k => by rw [spec_l1New.l0]) ?_⟩
   refine ev_pos (by omega) (ev_pos h4 (ev_pos (by omega) ?_))
   rw [wrap_id (x := (i : Int) + 1) (by omega) (by omega)]
   exact hev
  ·refine ⟨h, Ev.step (fun k => by rw [spec_l1New.l0]) ?_⟩
   exact ev_pos (by omega) (ev_neg h4 (Ev.now _))
theorem l1New_ok (b : List Int) (hb : b.length ≤ 1048576) : ∃ h2, Ev (fun k => spec_l1New.f k b) (b, 0, h2) ∧ Cur b 0 := by
 unfold spec_l1New.f
 obtain ⟨h2, hev⟩ := l1New_l0 b hb b 0 (wrap64 (193017 + (b.length : Int))) rfl
 exact ⟨h2, hev, by unfold Cur; omega⟩
theorem l1Int_ok (b : List Int) (i h : Int) (l : List Int) (hc : Cur b i) (hb : b.length ≤ 1048576) (hl : 0 < l.length) : ∃ r i2 h2, spec_l1Int.f b i h l = some (r, i2, h2) ∧ r ∈ l ∧ Cur b i2 := by
 unfold spec_l1Int.f
 obtain ⟨r, i2, h2, e, h0, hlt, _, hc2⟩ := l1Below_ok b i h (l.length : Int) hc hb
 have := hlt (by omega)
 rw [e]
 simp only [Option.bind_some]
 rw [if_pos h0, if_pos this]
 refine ⟨_, _, _, rfl, ?_, hc2⟩
 obtain ⟨n, rfl⟩ : ∃ n : Nat, r = n := ⟨r.toNat, by omega⟩
 rw [rd_nat l n (by omega)]
 exact List.getElem_mem _
theorem l4Raw_ok (b : List Int) (i h : Int) (hc : Cur b i) (hb : b.length ≤ 1048576) : ∃ r i2 h2, spec_l4Raw.f b i h = some (r, i2, h2) ∧ (-9223372036854775808 ≤ r ∧ r ≤ 9223372036854775807) ∧ Cur b i2 := by
 unfold spec_l4Raw.f
 obtain ⟨r, i2, h2, e, hm, hc2⟩ := l1Int_ok b i h [(-1), 0, 5, 10, 11, 9223372036854775807, (-9223372036854775808)] hc hb (by decide)
 rw [e]
 refine ⟨_, _, _, rfl, ?_, hc2⟩
 simp only [List.mem_cons, List.not_mem_nil, or_false] at hm
 show -9223372036854775808 ≤ r ∧ r ≤ 9223372036854775807
 omega
theorem big_eq (b : List Int) : laws_big.f b = some (decide ((b.length : Int) > 1048576)) := rfl

def rowOk (h : Int) (r : List Int) : Bool := decide (r.length = 2 ∧ 0 ≤ rd r 0 ∧ rd r 0 ≤ h ∧ 0 ≤ rd r 1 ∧ rd r 1 ≤ h)
def lexLt (p r : List Int) : Bool := decide (rd p 0 < rd r 0 ∨ rd p 0 = rd r 0 ∧ rd p 1 < rd r 1)
def rowsOk (h : Int) : Option (List Int) → List (List Int) → Bool
 | _, [] => true
 | p, r :: rs => rowOk h r && ((match p with | none => true | some q => lexLt q r) && rowsOk h (some r) rs)
def isGraph (n : Int) (rs : List (List Int)) : Bool := decide (0 ≤ n ∧ n ≤ 10) && rowsOk (wrap64 (n - 1)) none rs
theorem isGraph_spec_l0 (n : Int) (xs : List (List Int)) (hn : xs.length ≤ 4611686018427387904) : ∀ (zs : List (List Int)) (i : Nat) (p : Option (List Int)), xs.drop i = zs → (i = 0 ∧ p = none ∨ ∃ q, p = some q ∧ 0 < i ∧ xs[i - 1]? = some q ∧ q.length = 2) → Ev (fun k => spec_IsGraph.l0 k (i : Int) n xs) (rowsOk (wrap64 (n - 1)) p zs && decide (0 ≤ n ∧ n ≤ 10)) := by
 intro zs
 induction zs with
 | nil =>
  intro i p h _
  have := at_end h
  refine Ev.step (fun k => by rw [spec_IsGraph.l0]) ?_
  refine ev_neg (by omega) (ev_bind0 (l1In_eq _ _ _) (ev_eq (Ev.now _) ?_))
  simp [rowsOk]
 | cons z zs ih =>
  intro i p h hp
  obtain ⟨hlt, hz, h2, _⟩ := at_drop h
  have hr : rd_L2 xs (i : Int) = z := getD_at hz
  refine Ev.step (fun k => by rw [spec_IsGraph.l0]) ?_
  refine ev_pos (by omega) (ev_pos (by omega) ?_)
  rw [hr]
  have bad : rowOk (wrap64 (n - 1)) z = false → Ev (fun k => spec_IsGraph.j1 k (i : Int) z true n xs) (rowsOk (wrap64 (n - 1)) p (z :: zs) && decide (0 ≤ n ∧ n ≤ 10)) := by
   intro hb
   refine Ev.step (fun k => by rw [spec_IsGraph.j1]) (ev_pos rfl (ev_eq (Ev.now _) ?_))
   simp [rowsOk, hb]
  refine ev_ite (fun e1 => ev_pos (by omega) (ev_bind0 (l1In_eq _ _ _) (ev_ite (fun e2 => ev_pos (by omega) (ev_bind0 (l1In_eq _ _ _) ?_)) (fun e2 => bad ?_)))) (fun e1 => bad ?_)
  ·have e2 := of_decide_eq_true e2
   by_cases e3 : 0 ≤ rd z 1 ∧ rd z 1 ≤ wrap64 (n - 1)
   ·have hok : rowOk (wrap64 (n - 1)) z = true := decide_eq_true ⟨by omega, e2.1, e2.2, e3.1, e3.2⟩
    have hl2 : z.length = 2 := by omega
    have ih2 := ih (i + 1) (some z) h2 (.inr ⟨z, rfl, by omega, hz, hl2⟩)
    rw [decide_eq_true e3]
    refine Ev.step (fun k => by rw [spec_IsGraph.j1]) (ev_neg (by decide) ?_)
    rw [wrap_id (x := (i : Int) + 1) (by omega) (by omega)]
    rcases hp with ⟨hi0, rfl⟩ | ⟨q, rfl, hi0, hq, hq2⟩
    ·refine ev_neg (by omega) (ev_eq ih2 ?_)
     simp [rowsOk, hok]
    ·have hr2 : rd_L2 xs ((i : Int) - 1) = q := by
      rw [show (i : Int) - 1 = ((i - 1 : Nat) : Int) by omega]
      exact getD_at hq
     rw [wrap_id (x := (i : Int) - 1) (by omega) (by omega), hr2]
     refine ev_pos (by omega) (ev_pos (by omega) (ev_pos (by omega) (ev_pos (by omega) (ev_pos (by omega) ?_))))
     refine ev_ite (fun e4 => ev_eq (Ev.now _) ?_) (fun e4 => ev_ite (fun e5 => ev_pos (by omega) (ev_pos (by omega) (ev_ite (fun e6 => ev_eq (Ev.now _) ?_) (fun e6 => ev_eq ih2 ?_)))) (fun e5 => ev_eq ih2 ?_))
     ·have : lexLt q z = false := decide_eq_false (by omega)
      simp [rowsOk, this]
     ·have : lexLt q z = false := decide_eq_false (by omega)
      simp [rowsOk, this]
     ·have : lexLt q z = true := decide_eq_true (by omega)
      simp [rowsOk, this, hok]
     ·have : lexLt q z = true := decide_eq_true (by omega)
      simp [rowsOk, this, hok]
   ·rw [decide_eq_false e3]
    exact bad (decide_eq_false (by rintro ⟨_, _, _, h4, h5⟩; exact e3 ⟨h4, h5⟩))
  ·have e2 : ¬ _ := fun h => e2 (decide_eq_true h)
   exact decide_eq_false (by rintro ⟨_, h2, h3, _⟩; exact e2 ⟨h2, h3⟩)
  ·exact decide_eq_false (by rintro ⟨h1, _⟩; omega)
theorem isGraph_specB (n : Int) (xs : List (List Int)) (hn : xs.length ≤ 4611686018427387904) : Ev (fun k => spec_IsGraph.f k n xs) (isGraph n xs) := by
 unfold spec_IsGraph.f
 refine ev_eq (isGraph_spec_l0 n xs hn xs 0 none rfl (.inl ⟨rfl, rfl⟩)) ?_
 unfold isGraph
 exact Bool.and_comm _ _
theorem isGraph_spec (n : Int) (xs : List (List Int)) (hn : xs.length ≤ 1048576) : Ev (fun k => spec_IsGraph.f k n xs) (isGraph n xs) := isGraph_specB n xs (by omega)
theorem isGraph_n {n : Int} {xs : List (List Int)} (h : isGraph n xs = true) : 0 ≤ n ∧ n ≤ 10 := by
 unfold isGraph at h
 exact of_decide_eq_true (Bool.and_eq_true_iff.1 h).1
theorem rowsOk_mem {h : Int} : ∀ (rs : List (List Int)) (p : Option (List Int)), rowsOk h p rs = true → ∀ r ∈ rs, rowOk h r = true := by
 intro rs
 induction rs with
 | nil => intro p _ r hr; exact absurd hr (by simp)
 | cons a rs ih =>
  intro p hp r hr
  unfold rowsOk at hp
  simp only [Bool.and_eq_true] at hp
  rcases List.mem_cons.1 hr with rfl | hr
  ·exact hp.1
  ·exact ih (some a) hp.2.2 r hr
theorem isGraph_row {n : Int} {xs : List (List Int)} (h : isGraph n xs = true) {r : List Int} (hr : r ∈ xs) : r.length = 2 ∧ 0 ≤ rd r 0 ∧ rd r 0 ≤ n - 1 ∧ 0 ≤ rd r 1 ∧ rd r 1 ≤ n - 1 := by
 have hn := isGraph_n h
 unfold isGraph at h
 have := of_decide_eq_true (rowsOk_mem xs none (Bool.and_eq_true_iff.1 h).2 r hr)
 rw [wrap_id (by omega) (by omega)] at this
 exact this
theorem compare2 (a b c d : Int) : Ev (fun k => slices_Compare_int_int.f k [a, b] [c, d]) (if a < c then -1 else if a > c then 1 else if b < d then -1 else if b > d then 1 else 0) := by
 have hc : ∀ x y : Int, cmp_Compare_int.f x y = some (if x < y then -1 else if x > y then 1 else 0) := by
  intro x y
  unfold cmp_Compare_int.f cmp_isNaN_int.f
  simp only [bne_self_eq_false, Option.bind_some, Bool.false_eq_true, if_false]
  split
  ·rfl
  ·split <;> rfl
 have hl : ∀ x y : Int, (([x, y] : List Int).length : Int) = 2 := fun _ _ => rfl
 unfold slices_Compare_int_int.f
 refine Ev.step (fun k => by rw [slices_Compare_int_int.l0]) ?_
 rw [hl, hl]
 refine ev_pos (by omega) (ev_pos (by omega) (ev_pos (by omega) (ev_neg (by omega) (ev_pos (by omega) (ev_bind0 (hc _ _) ?_)))))
 rw [show rd [a, b] 0 = a from rfl, show rd [c, d] 0 = c from rfl]
 by_cases h1 : a < c
 ·rw [if_pos h1, if_pos h1]
  exact ev_neg (by omega) (Ev.now _)
 ·rw [if_neg h1, if_neg h1]
  by_cases h2 : a > c
  ·rw [if_pos h2, if_pos h2]
   exact ev_neg (by omega) (Ev.now _)
  ·rw [if_neg h2, if_neg h2]
   refine ev_pos rfl ?_
   rw [wrap_id (x := 0 + 1) (by omega) (by omega)]
   refine Ev.step (fun k => by rw [slices_Compare_int_int.l0]) ?_
   rw [hl, hl]
   refine ev_pos (by omega) (ev_pos (by omega) (ev_pos (by omega) (ev_neg (by omega) (ev_pos (by omega) (ev_bind0 (hc _ _) ?_)))))
   rw [show rd [a, b] (0 + 1) = b from rfl, show rd [c, d] (0 + 1) = d from rfl]
   by_cases h3 : b < d
   ·rw [if_pos h3]
    exact ev_neg (by omega) (Ev.now _)
   ·rw [if_neg h3]
    by_cases h4 : b > d
    ·rw [if_pos h4]
     exact ev_neg (by omega) (Ev.now _)
    ·rw [if_neg h4]
     refine ev_pos rfl ?_
     rw [wrap_id (x := 0 + 1 + 1) (by omega) (by omega)]
     refine Ev.step (fun k => by rw [slices_Compare_int_int.l0]) ?_
     rw [hl, hl]
     exact ev_neg (by omega) (ev_neg (by omega) (Ev.now _))
theorem two_of {r : List Int} (h : r.length = 2) : r = [rd r 0, rd r 1] := by
 match r, h with
 | [a, b], _ => rfl
theorem compare_rows (q z : List Int) (hq : q.length = 2) (hz : z.length = 2) : ∃ c : Int, Ev (fun k => slices_Compare_int_int.f k q z) c ∧ (c ≥ 0 ↔ lexLt q z = false) := by
 refine ⟨_, by rw [two_of hq, two_of hz]; exact compare2 _ _ _ _, ?_⟩
 unfold lexLt
 rw [decide_eq_false_iff_not]
 generalize rd q 0 = a
 generalize rd q 1 = b
 generalize rd z 0 = c
 generalize rd z 1 = d
 split
 ·omega
 ·split
  ·omega
  ·split
   ·omega
   ·split <;> omega
theorem isClaim_eq (n : Int) (xs : List (List Int)) (a : Int) : impl_isClaim.f n xs a = some (decide (0 ≤ a ∧ a ≤ wrap64 (n - 1))) := by
 unfold impl_isClaim.f
 rw [inRange_eq]
 rfl
theorem isGraph_impl_l0 (n : Int) (xs : List (List Int)) (hn : xs.length ≤ 4611686018427387904) : ∀ (zs : List (List Int)) (i : Nat) (p : Option (List Int)), xs.drop i = zs → (i = 0 ∧ p = none ∨ ∃ q, p = some q ∧ 0 < i ∧ xs[i - 1]? = some q ∧ q.length = 2) → Ev (fun k => impl_IsGraph.l0 k xs xs.length (i : Int) n xs) (rowsOk (wrap64 (n - 1)) p zs) := by
 intro zs
 induction zs with
 | nil =>
  intro i p h _
  have := at_end h
  refine Ev.step (fun k => by rw [impl_IsGraph.l0]) ?_
  exact ev_neg (by omega) (Ev.now _)
 | cons z zs ih =>
  intro i p h hp
  obtain ⟨hlt, hz, h2, _⟩ := at_drop h
  have hr : rd_L2 xs (i : Int) = z := getD_at hz
  refine Ev.step (fun k => by rw [impl_IsGraph.l0]) ?_
  refine ev_pos (by omega) (ev_pos (by omega) (ev_pos (by omega) ?_))
  rw [hr]
  have bad : rowOk (wrap64 (n - 1)) z = false → false = rowsOk (wrap64 (n - 1)) p (z :: zs) := by
   intro hb
   simp [rowsOk, hb]
  refine ev_ite (fun e1 => ev_pos (by omega) (ev_bind0 (isClaim_eq _ _ _) (ev_ite (fun e2 => ev_pos (by omega) (ev_bind0 (isClaim_eq _ _ _) (ev_ite (fun e3 => ?_) (fun e3 => ev_eq (Ev.now _) (bad ?_))))) (fun e2 => ev_eq (Ev.now _) (bad ?_))))) (fun e1 => ev_eq (Ev.now _) (bad ?_))
  ·have e2 := of_decide_eq_true e2
   have e3 := of_decide_eq_true e3
   have hok : rowOk (wrap64 (n - 1)) z = true := decide_eq_true ⟨by omega, e2.1, e2.2, e3.1, e3.2⟩
   have hl2 : z.length = 2 := by omega
   have ih2 := ih (i + 1) (some z) h2 (.inr ⟨z, rfl, by omega, hz, hl2⟩)
   rw [wrap_id (x := (i : Int) + 1) (by omega) (by omega)]
   rcases hp with ⟨hi0, rfl⟩ | ⟨q, rfl, hi0, hq, hq2⟩
   ·refine ev_neg (by omega) (ev_eq ih2 ?_)
    simp [rowsOk, hok]
   ·have hr2 : rd_L2 xs ((i : Int) - 1) = q := by
     rw [show (i : Int) - 1 = ((i - 1 : Nat) : Int) by omega]
     exact getD_at hq
    rw [wrap_id (x := (i : Int) - 1) (by omega) (by omega), hr2]
    obtain ⟨c, hc, hc2⟩ := compare_rows q z hq2 hl2
    refine ev_pos (by omega) (ev_pos (by omega) (ev_pos (by omega) (Ev.bind hc (ev_ite (fun e4 => ev_eq (Ev.now _) ?_) (fun e4 => ev_eq ih2 ?_)))))
    ·have := hc2.1 e4
     simp [rowsOk, this]
    ·have : lexLt q z = true := by
      cases hl : lexLt q z with
      | true => rfl
      | false => exact absurd (hc2.2 hl) e4
     simp [rowsOk, this, hok]
  ·have e3 : ¬ _ := fun h => e3 (decide_eq_true h)
   exact decide_eq_false (by rintro ⟨_, _, _, h4, h5⟩; exact e3 ⟨h4, h5⟩)
  ·have e2 : ¬ _ := fun h => e2 (decide_eq_true h)
   exact decide_eq_false (by rintro ⟨_, h2, h3, _⟩; exact e2 ⟨h2, h3⟩)
  ·exact decide_eq_false (by rintro ⟨h1, _⟩; omega)
theorem isGraph_implB (n : Int) (xs : List (List Int)) (hn : xs.length ≤ 4611686018427387904) : Ev (fun k => impl_IsGraph.f k n xs) (isGraph n xs) := by
 unfold impl_IsGraph.f isGraph
 refine ev_bind0 (inRange_eq _ _ _) (ev_ite (fun e => ?_) (fun e => ev_eq (Ev.now _) ?_))
 ·rw [e, Bool.true_and]
  exact isGraph_impl_l0 n xs hn xs 0 none rfl (.inl ⟨rfl, rfl⟩)
 ·rw [show decide (0 ≤ n ∧ n ≤ 10) = false by simpa using e, Bool.false_and]
theorem isGraph_impl (n : Int) (xs : List (List Int)) (hn : xs.length ≤ 1048576) : Ev (fun k => impl_IsGraph.f k n xs) (isGraph n xs) := isGraph_implB n xs (by omega)
def victims (n : Int) (xs : List (List Int)) (a : Int) : List Int := if isGraph n xs then (xs.filter fun r => decide (rd r 0 = a)).map fun r => rd r 1 else []
def attackers (n : Int) (xs : List (List Int)) (a : Int) : List Int := if isGraph n xs then (xs.filter fun r => decide (rd r 1 = a)).map fun r => rd r 0 else []
def does (n : Int) (xs : List (List Int)) (a b : Int) : Bool := isGraph n xs && xs.any fun r => decide (rd r 0 = a ∧ rd r 1 = b)
theorem victims_length (n : Int) (xs : List (List Int)) (a : Int) : (victims n xs a).length ≤ xs.length := by
 unfold victims
 split
 ·rw [List.length_map]; exact List.length_filter_le _ _
 ·simp
theorem attackers_length (n : Int) (xs : List (List Int)) (a : Int) : (attackers n xs a).length ≤ xs.length := by
 unfold attackers
 split
 ·rw [List.length_map]; exact List.length_filter_le _ _
 ·simp
theorem victims_mem (n : Int) (xs : List (List Int)) (a b : Int) : decide (b ∈ victims n xs a) = does n xs a b := by
 rw [Bool.eq_iff_iff, decide_eq_true_eq]
 unfold victims does
 cases isGraph n xs with
 | false => simp
 | true =>
  rw [if_pos rfl, Bool.true_and, List.any_eq_true, List.mem_map]
  constructor
  ·rintro ⟨r, hr, rfl⟩
   rw [List.mem_filter] at hr
   exact ⟨r, hr.1, decide_eq_true ⟨of_decide_eq_true hr.2, rfl⟩⟩
  ·rintro ⟨r, hr, h⟩
   have h := of_decide_eq_true h
   exact ⟨r, List.mem_filter.2 ⟨hr, decide_eq_true h.1⟩, h.2⟩
theorem does_range {n : Int} {xs : List (List Int)} {a b : Int} (h : does n xs a b = true) : 0 ≤ a ∧ a ≤ n - 1 ∧ 0 ≤ b ∧ b ≤ n - 1 := by
 unfold does at h
 rw [Bool.and_eq_true, List.any_eq_true] at h
 obtain ⟨hg, r, hr, h2⟩ := h
 have h2 := of_decide_eq_true h2
 have := isGraph_row hg hr
 rw [h2.1, h2.2] at this
 exact ⟨this.2.1, this.2.2.1, this.2.2.2.1, this.2.2.2.2⟩
theorem victims_l0 (n : Int) (xs : List (List Int)) (a : Int) (hg : isGraph n xs = true) (hn : xs.length ≤ 1048576) : ∀ (zs : List (List Int)) (i : Nat) (acc : List Int), xs.drop i = zs → acc.length ≤ i → Ev (fun k => impl_VictimsOf.l0 k a acc xs xs.length (i : Int)) (acc ++ (zs.filter fun r => decide (rd r 0 = a)).map fun r => rd r 1) := by
 intro zs
 induction zs with
 | nil =>
  intro i acc h _
  have := at_end h
  refine Ev.step (fun k => by rw [impl_VictimsOf.l0]) ?_
  exact ev_neg (by omega) (ev_eq (Ev.now _) (by simp))
 | cons z zs ih =>
  intro i acc h hl
  obtain ⟨hlt, hz, h2, _⟩ := at_drop h
  have hr : rd_L2 xs (i : Int) = z := getD_at hz
  have hg := isGraph_row hg (List.mem_of_getElem? hz)
  refine Ev.step (fun k => by rw [impl_VictimsOf.l0]) ?_
  rw [hr, wrap_id (x := (i : Int) + 1) (by omega) (by omega)]
  refine ev_pos (by omega) (ev_pos (by omega) (ev_pos (by omega) (ev_pos (by omega) (ev_ite (fun e2 => ev_pos (by omega) (ev_pos (by omega) (ev_eq (ih (i + 1) (acc ++ [rd z 1]) h2 (by first | (simp; done) | (simp; omega))) ?_))) (fun e2 => ev_eq (ih (i + 1) acc h2 (by omega)) ?_)))))
  ·rw [List.filter_cons_of_pos (by simp [e2])]; simp
  ·rw [List.filter_cons_of_neg (by simp [e2])]
theorem victims_impl (n : Int) (xs : List (List Int)) (a : Int) (hn : xs.length ≤ 1048576) : Ev (fun k => impl_VictimsOf.f k n xs a) (victims n xs a) := by
 unfold impl_VictimsOf.f victims
 refine ev_bind0 rfl (Ev.bind (isGraph_impl n xs hn) (ev_ite (fun e => ?_) (fun e => ev_eq (Ev.now _) ?_)))
 ·rw [if_pos e]
  exact victims_l0 n xs a e hn xs 0 [] rfl (by simp)
 ·rw [if_neg e]
theorem attackers_l0 (n : Int) (xs : List (List Int)) (a : Int) (hg : isGraph n xs = true) (hn : xs.length ≤ 1048576) : ∀ (zs : List (List Int)) (i : Nat) (acc : List Int), xs.drop i = zs → acc.length ≤ i → Ev (fun k => impl_AttackersOf.l0 k a acc xs xs.length (i : Int)) (acc ++ (zs.filter fun r => decide (rd r 1 = a)).map fun r => rd r 0) := by
 intro zs
 induction zs with
 | nil =>
  intro i acc h _
  have := at_end h
  refine Ev.step (fun k => by rw [impl_AttackersOf.l0]) ?_
  exact ev_neg (by omega) (ev_eq (Ev.now _) (by simp))
 | cons z zs ih =>
  intro i acc h hl
  obtain ⟨hlt, hz, h2, _⟩ := at_drop h
  have hr : rd_L2 xs (i : Int) = z := getD_at hz
  have hg := isGraph_row hg (List.mem_of_getElem? hz)
  refine Ev.step (fun k => by rw [impl_AttackersOf.l0]) ?_
  rw [hr, wrap_id (x := (i : Int) + 1) (by omega) (by omega)]
  refine ev_pos (by omega) (ev_pos (by omega) (ev_pos (by omega) (ev_pos (by omega) (ev_ite (fun e2 => ev_pos (by omega) (ev_pos (by omega) (ev_eq (ih (i + 1) (acc ++ [rd z 0]) h2 (by first | (simp; done) | (simp; omega))) ?_))) (fun e2 => ev_eq (ih (i + 1) acc h2 (by omega)) ?_)))))
  ·rw [List.filter_cons_of_pos (by simp [e2])]; simp
  ·rw [List.filter_cons_of_neg (by simp [e2])]
theorem attackers_impl (n : Int) (xs : List (List Int)) (a : Int) (hn : xs.length ≤ 1048576) : Ev (fun k => impl_AttackersOf.f k n xs a) (attackers n xs a) := by
 unfold impl_AttackersOf.f attackers
 refine ev_bind0 rfl (Ev.bind (isGraph_impl n xs hn) (ev_ite (fun e => ?_) (fun e => ev_eq (Ev.now _) ?_)))
 ·rw [if_pos e]
  exact attackers_l0 n xs a e hn xs 0 [] rfl (by simp)
 ·rw [if_neg e]
theorem attackersS_l0 (n : Int) (xs : List (List Int)) (a : Int) (hn : xs.length ≤ 1048576) : ∀ (zs : List (List Int)) (i : Nat) (acc : List Int), xs.drop i = zs → acc.length ≤ i → Ev (fun k => spec_AttackersOf.l0 k a acc (i : Int) n xs) (acc ++ if isGraph n xs then (zs.filter fun r => decide (rd r 1 = a)).map fun r => rd r 0 else []) := by
 intro zs
 induction zs with
 | nil =>
  intro i acc h _
  have := at_end h
  refine Ev.step (fun k => by rw [spec_AttackersOf.l0]) ?_
  exact ev_neg (by omega) (Ev.step (fun k => by rw [spec_AttackersOf.j1]) (ev_neg (by decide) (ev_eq (Ev.now _) (by simp))))
 | cons z zs ih =>
  intro i acc h hl
  obtain ⟨hlt, hz, h2, _⟩ := at_drop h
  have hr : rd_L2 xs (i : Int) = z := getD_at hz
  refine Ev.step (fun k => by rw [spec_AttackersOf.l0]) ?_
  refine ev_pos (by omega) (Ev.bind (isGraph_spec n xs hn) (Ev.step (fun k => by rw [spec_AttackersOf.j1]) (ev_ite (fun e => ?_) (fun e => ev_eq (Ev.now _) ?_))))
  ·have hg := isGraph_row e (List.mem_of_getElem? hz)
   rw [hr, wrap_id (x := (i : Int) + 1) (by omega) (by omega)]
   refine ev_pos (by omega) (ev_pos (by omega) (ev_pos (by omega) (ev_ite (fun e2 => ev_pos (by omega) (ev_pos (by omega) (ev_eq (ih (i + 1) (acc ++ [rd z 0]) h2 (by first | (simp; done) | (simp; omega))) ?_))) (fun e2 => ev_eq (ih (i + 1) acc h2 (by omega)) ?_))))
   ·rw [if_pos e, if_pos e, List.filter_cons_of_pos (by simp [e2])]; simp
   ·rw [if_pos e, if_pos e, List.filter_cons_of_neg (by simp [e2])]
  ·rw [if_neg e, List.append_nil]
theorem attackers_spec (n : Int) (xs : List (List Int)) (a : Int) (hn : xs.length ≤ 1048576) : Ev (fun k => spec_AttackersOf.f k n xs a) (attackers n xs a) := by
 unfold spec_AttackersOf.f attackers
 exact attackersS_l0 n xs a hn xs 0 [] rfl (by simp)
def answers (n : Int) (xs : List (List Int)) (own : List Int) (a : Int) : List Int := (attackers n xs a).filter fun x => !decide (x ∈ own)
theorem copyG_l0 (n : Int) (xs : List (List Int)) (hn : xs.length ≤ 1048576) (hi : ∀ y ∈ xs, y.length ≤ 1048576) : ∀ (zs : List (List Int)) (i : Nat) (m : Int) (acc : List (List Int)), xs.drop i = zs → acc.length = i → Ev (fun k => spec_l4Copy.l0 k (i : Int) n xs m acc) (m, acc ++ zs) := by
 intro zs
 induction zs with
 | nil =>
  intro i m acc h hl
  have := at_end h
  refine Ev.step (fun k => by rw [spec_l4Copy.l0]) ?_
  exact ev_neg (by omega) (ev_eq (Ev.now _) (by simp))
 | cons z zs ih =>
  intro i m acc h hl
  obtain ⟨hlt, hz, h2, _⟩ := at_drop h
  have hr : rd_L2 xs (i : Int) = z := getD_at hz
  have hm := hi z (List.mem_of_getElem? hz)
  refine Ev.step (fun k => by rw [spec_l4Copy.l0]) ?_
  refine ev_pos (by omega) (ev_bind0 (a := ([] : List Int)) rfl (ev_pos (by omega) ?_))
  rw [hr, wrap_id (x := (i : Int) + 1) (by omega) (by omega)]
  refine ev_pos (by simp only [List.length_nil]; omega) (ev_pos (by omega) ?_)
  refine ev_eq (ih (i + 1) m (acc ++ [[] ++ z]) h2 (by first | (simp; done) | (simp; omega))) (by simp)
theorem copyG_ev (n : Int) (xs : List (List Int)) (hn : xs.length ≤ 1048576) (hi : ∀ y ∈ xs, y.length ≤ 1048576) : Ev (fun k => spec_l4Copy.f k n xs) (n, xs) := by
 unfold spec_l4Copy.f
 simpa using copyG_l0 n xs hn hi xs 0 n [] rfl rfl
def inR (n a : Int) : Bool := decide (0 ≤ a ∧ a ≤ wrap64 (n - 1))
/-- Going up. -/
def upward : List Int → Bool
 | [] => true
 | [_] => true
 | a :: b :: r => decide (a < b) && upward (b :: r)
def isSet (n : Int) (xs : List (List Int)) (cs : List Int) : Bool := isGraph n xs && (cs.all (inR n) && upward cs)
theorem isSet_l0 (n : Int) (xs : List (List Int)) (cs : List Int) (ha : cs.length ≤ 1048576) : ∀ (zs : List Int) (i : Nat), cs.drop i = zs → Ev (fun k => impl_IsSet.l0 k cs cs (cs.length : Int) (i : Int) n xs) (zs.all (inR n) && upward (if i = 0 then zs else rd cs ((i : Int) - 1) :: zs)) := by
 intro zs
 induction zs with
 | nil =>
  intro i h
  have := at_end h
  refine Ev.step (fun k => by rw [impl_IsSet.l0]) (ev_neg (by omega) (ev_eq (Ev.now _) ?_))
  split <;> rfl
 | cons z zs ih =>
  intro i h
  obtain ⟨hlt, hz, h2, _⟩ := at_drop h
  have hr : rd cs (i : Int) = z := rd_get hz
  have hi1 : Ev (fun k => impl_IsSet.l0 k cs cs (cs.length : Int) (wrap64 ((i : Int) + 1)) n xs) (zs.all (inR n) && upward (z :: zs)) := by
   rw [wrap_id (x := (i : Int) + 1) (by omega) (by omega)]
   have := ih (i + 1) h2
   rw [if_neg (by omega), show ((i + 1 : Nat) : Int) - 1 = (i : Int) by omega, hr] at this
   exact this
  refine Ev.step (fun k => by rw [impl_IsSet.l0]) ?_
  refine ev_pos (by omega) (ev_pos (by omega) (ev_pos (by omega) ?_))
  rw [hr]
  refine ev_bind0 (isClaim_eq _ _ _) (ev_ite (fun e => ?_) (fun e => ev_eq (Ev.now _) ?_))
  ·have hz1 : inR n z = true := e
   by_cases h0 : i = 0
   ·subst h0
    refine ev_neg (by omega) (ev_eq hi1 ?_)
    rw [if_pos rfl, List.all_cons, hz1, Bool.true_and]
   ·rw [wrap_id (x := (i : Int) - 1) (by omega) (by omega)]
    refine ev_pos (by omega) (ev_pos (by omega) (ev_pos (by omega) (ev_ite (fun e2 => ev_eq (Ev.now _) ?_) (fun e2 => ev_eq hi1 ?_))))
    ·rw [if_neg h0, show upward (rd cs ((i : Int) - 1) :: z :: zs) = (decide (rd cs ((i : Int) - 1) < z) && upward (z :: zs)) from rfl, decide_eq_false (by omega), Bool.false_and, Bool.and_false]
    ·rw [if_neg h0, show upward (rd cs ((i : Int) - 1) :: z :: zs) = (decide (rd cs ((i : Int) - 1) < z) && upward (z :: zs)) from rfl, decide_eq_true (by omega), Bool.true_and, List.all_cons, hz1, Bool.true_and]
  ·have hz1 : inR n z = false := by simpa [inR] using e
   rw [List.all_cons, hz1, Bool.false_and, Bool.false_and]
theorem isSet_ev (n : Int) (xs : List (List Int)) (cs : List Int) (hn : xs.length ≤ 1048576) (ha : cs.length ≤ 1048576) : Ev (fun k => impl_IsSet.f k n xs cs) (isSet n xs cs) := by
 unfold impl_IsSet.f isSet
 refine Ev.bind (isGraph_impl n xs hn) (ev_ite (fun e => ?_) (fun e => ev_eq (Ev.now _) ?_))
 ·rw [e, Bool.true_and]
  exact isSet_l0 n xs cs ha cs 0 rfl
 ·rw [show isGraph n xs = false by simpa using e, Bool.false_and]
theorem two {r : List Int} (h : r.length = 2) : r = [rd r 0, rd r 1] := by
 match r, h with
 | [a, b], _ => rfl
def insR (p : List Int) : List (List Int) → List (List Int)
 | [] => [p]
 | z :: zs => if lexLt p z = true then p :: z :: zs else z :: insR p zs
theorem insR_perm (p : List Int) : ∀ zs : List (List Int), (insR p zs).Perm (p :: zs) := by
 intro zs
 induction zs with
 | nil => exact List.Perm.refl _
 | cons z zs ih =>
  unfold insR
  split
  ·exact List.Perm.refl _
  ·exact (List.Perm.cons z ih).trans (List.Perm.swap p z zs)
theorem addS_done (n x y : Int) (S T : List (List Int)) (hg : isGraph n S = true) (hn : S.length ≤ 1048576) (R : Int × List (List Int) × Bool) (hR : Ev (fun k => spec_AddAttack.j2 k n S n T) R) : ∀ (zs : List (List Int)) (i : Nat) (acc : List (List Int)), S.drop i = zs → acc.length ≤ i + 1 → acc ++ zs = T → Ev (fun k => spec_AddAttack.l0 k x y true (i : Int) n S n acc) R := by
 intro zs
 induction zs with
 | nil =>
  intro i acc h hl he
  have := at_end h
  rw [List.append_nil] at he
  subst he
  refine Ev.step (fun k => by rw [spec_AddAttack.l0]) (ev_neg (by omega) (Ev.step (fun k => by rw [spec_AddAttack.j1]) ?_))
  exact ev_neg (by decide) (ev_pos rfl hR)
 | cons z zs ih =>
  intro i acc h hl he
  obtain ⟨hlt, hz, h2, _⟩ := at_drop h
  have hr : rd_L2 S (i : Int) = z := getD_at hz
  have hlen := (isGraph_row hg (List.mem_of_getElem? hz)).1
  refine Ev.step (fun k => by rw [spec_AddAttack.l0]) (ev_pos (by omega) (Ev.bind (isGraph_spec n S hn) ?_))
  rw [hg]
  refine Ev.step (fun k => by rw [spec_AddAttack.j1]) (ev_pos rfl (ev_pos (by omega) (ev_pos (by omega) (ev_pos rfl (ev_bind0 (a := ([] : List Int)) rfl ?_)))))
  rw [hr, wrap_id (by omega) (by omega)]
  refine ev_pos (by simp only [List.length_nil]; omega) (ev_pos (by omega) ?_)
  exact ih (i + 1) (acc ++ [[] ++ z]) h2 (by rw [List.length_append, List.length_singleton]; omega) (by rw [List.nil_append, List.append_assoc]; exact he)
theorem addS_l0 (n x y : Int) (S : List (List Int)) (hg : isGraph n S = true) (hn : S.length ≤ 1048576) (R : Int × List (List Int) × Bool) (hR : Ev (fun k => spec_AddAttack.j2 k n S n (insR [x, y] S)) R) : ∀ (zs : List (List Int)) (i : Nat) (acc : List (List Int)), S.drop i = zs → acc.length ≤ i → acc ++ insR [x, y] zs = insR [x, y] S → Ev (fun k => spec_AddAttack.l0 k x y false (i : Int) n S n acc) R := by
 intro zs
 induction zs with
 | nil =>
  intro i acc h hl he
  have := at_end h
  refine Ev.step (fun k => by rw [spec_AddAttack.l0]) (ev_neg (by omega) (Ev.step (fun k => by rw [spec_AddAttack.j1]) ?_))
  refine ev_neg (by decide) (ev_neg (by decide) ?_)
  have hla : acc.length ≤ 1048577 := by
   have h3 := congrArg List.length he
   rw [List.length_append, (insR_perm [x, y] S).length_eq, List.length_cons] at h3
   omega
  refine ev_pos (by omega) ?_
  rw [show acc ++ [[x, y]] = insR [x, y] S from he]
  exact hR
 | cons z zs ih =>
  intro i acc h hl he
  obtain ⟨hlt, hz, h2, _⟩ := at_drop h
  have hr : rd_L2 S (i : Int) = z := getD_at hz
  have hlen := (isGraph_row hg (List.mem_of_getElem? hz)).1
  refine Ev.step (fun k => by rw [spec_AddAttack.l0]) (ev_pos (by omega) (Ev.bind (isGraph_spec n S hn) ?_))
  rw [hg]
  refine Ev.step (fun k => by rw [spec_AddAttack.j1]) (ev_pos rfl (ev_pos (by omega) (ev_pos (by omega) (ev_neg (by decide) ?_))))
  rw [hr, wrap_id (by omega) (by omega)]
  have before : lexLt [x, y] z = true → Ev (fun k => (some (acc ++ [[x, y]]) : Option (List (List Int))).bind fun u => (some ([] : List Int)).bind fun v => if v.length + z.length < 17592186044416 then (if u.length < 5864062014805 then spec_AddAttack.l0 k x y true ((i : Int) + 1) n S n (u ++ [v ++ z]) else none) else none) R := by
   intro e
   refine ev_bind0 rfl (ev_bind0 rfl (ev_pos (by simp only [List.length_nil]; omega) (ev_pos (by rw [List.length_append, List.length_singleton]; omega) ?_)))
   refine addS_done n x y S (insR [x, y] S) hg hn R hR zs (i + 1) _ h2 (by rw [List.length_append, List.length_append, List.length_singleton, List.length_singleton]; omega) ?_
   rw [← he]
   unfold insR
   rw [if_pos e, List.nil_append, List.append_assoc, List.append_assoc]
   rfl
  have behind : ¬ lexLt [x, y] z = true → Ev (fun k => (some ([] : List Int)).bind fun v => if v.length + z.length < 17592186044416 then (if acc.length < 5864062014805 then spec_AddAttack.l0 k x y false ((i : Int) + 1) n S n (acc ++ [v ++ z]) else none) else none) R := by
   intro e
   refine ev_bind0 rfl (ev_pos (by simp only [List.length_nil]; omega) (ev_pos (by omega) ?_))
   refine ih (i + 1) _ h2 (by rw [List.length_append, List.length_singleton]; omega) ?_
   rw [← he, List.nil_append, List.append_assoc]
   conv => rhs; unfold insR
   rw [if_neg e]
   rfl
  have hlx : lexLt [x, y] z = true ↔ x < rd z 0 ∨ x = rd z 0 ∧ y < rd z 1 := by
   unfold lexLt
   rw [decide_eq_true_eq]
   exact Iff.rfl
  refine ev_pos (by omega) (ev_ite (fun e1 => ev_pos (by omega) (before (hlx.2 (by omega)))) (fun e1 => ev_ite (fun e2 => ev_pos (by omega) (ev_ite (fun e3 => ev_pos (by omega) (before (hlx.2 (by omega)))) (fun e3 => behind (fun e => ?_)))) (fun e2 => behind (fun e => ?_))))
  ·have := hlx.1 e; omega
  ·have := hlx.1 e; omega
theorem compact_mem (zs : List Int) (y : Int) : y ∈ Go.Lib.compact zs ↔ y ∈ zs := by
 unfold Go.Lib.compact Go.Lib.compactUpTo
 constructor
 ·intro h
  obtain ⟨j, hj, rfl⟩ := List.mem_map.1 h
  have hj2 := List.mem_range.1 (List.mem_filter.1 hj).1
  simp [hj2]
 ·intro h
  obtain ⟨j, hj, he⟩ := List.getElem_of_mem h
  have key : ∀ j, (hj : j < zs.length) → zs[j] = y → y ∈ ((List.range zs.length).filter (Go.Lib.keeps zs.toArray)).map (zs.toArray[·]!) := by
   intro j
   induction j with
   | zero =>
    intro hj he
    exact List.mem_map.2 ⟨0, List.mem_filter.2 ⟨List.mem_range.2 hj, by simp [Go.Lib.keeps]⟩, by simp [hj, he]⟩
   | succ j ih =>
    intro hj he
    by_cases hk : Go.Lib.keeps zs.toArray (j + 1) = true
    ·exact List.mem_map.2 ⟨j + 1, List.mem_filter.2 ⟨List.mem_range.2 hj, hk⟩, by simp [hj, he]⟩
    ·refine ih (by omega) ?_
     have : zs[j + 1] = zs[j] := by simpa [Go.Lib.keeps, hj, show j < zs.length by omega] using hk
     rw [← this, he]
  exact key j hj he
theorem compact_asc (zs : List Int) (h : zs.Pairwise (· ≤ ·)) : (Go.Lib.compact zs).Pairwise (· < ·) := by
 unfold Go.Lib.compact Go.Lib.compactUpTo
 rw [List.pairwise_map]
 refine List.Pairwise.imp_of_mem ?_ (List.Pairwise.filter _ List.pairwise_lt_range)
 intro i j hi hj hij
 have hj2 := List.mem_range.1 (List.mem_filter.1 hj).1
 have hk := (List.mem_filter.1 hj).2
 have hk2 : ¬ zs[j] = zs[j - 1] := by
  have h1 : j = 0 ∨ ¬ zs[j] = zs[j - 1] := by simpa [Go.Lib.keeps, hj2, show j - 1 < zs.length by omega] using hk
  rcases h1 with h1 | h1
  ·omega
  ·exact h1
 have hp := List.pairwise_iff_getElem.1 h
 have h1 : zs[j - 1] ≤ zs[j] := hp (j - 1) j (by omega) hj2 (by omega)
 have h2 : zs[i] ≤ zs[j - 1] := by
  by_cases e : i = j - 1
  ·subst e
   exact Int.le_refl _
  ·exact hp i (j - 1) (by omega) (by omega) (by omega)
 simp only [List.getElem!_toArray, getElem!_pos zs i (by omega), getElem!_pos zs j hj2]
 omega
theorem sorted_asc (l : List Int) : (sorted_ l).Pairwise (· ≤ ·) := by
 have h := List.pairwise_mergeSort (le := fun x y : Int => decide (x ≤ y)) (by intro a b c h1 h2; simp at *; omega) (by intro a b; first | (simp; done) | (simp; omega)) l
 exact h.imp (fun h => by simpa using h)
theorem sorted_mem (l : List Int) (y : Int) : y ∈ sorted_ l ↔ y ∈ l := by
 unfold sorted_
 exact List.mem_mergeSort
/-- i, i + 1, .. (d of them), those that p takes. -/
def fromN (p : Int → Bool) : Nat → Nat → List Int
 | _, 0 => []
 | i, d + 1 => (if p (i : Int) = true then [(i : Int)] else []) ++ fromN p (i + 1) d
theorem fromN_mem (p : Int → Bool) (y : Int) : ∀ d i : Nat, y ∈ fromN p i d ↔ ((i : Int) ≤ y ∧ y < (i : Int) + d) ∧ p y = true := by
 intro d
 induction d with
 | zero =>
  intro i
  unfold fromN
  refine ⟨fun h => absurd h (by simp), fun h => ?_⟩
  have := h.1
  omega
 | succ d ih =>
  intro i
  unfold fromN
  rw [List.mem_append, ih (i + 1)]
  by_cases e : y = (i : Int)
  ·subst e
   by_cases hp : p (i : Int) = true
   ·rw [if_pos hp]
    refine ⟨fun _ => ⟨by omega, hp⟩, fun _ => .inl (by simp)⟩
   ·rw [if_neg hp]
    refine ⟨fun h => ?_, fun h => absurd h.2 hp⟩
    rcases h with h | h
    ·exact absurd h (by simp)
    ·exact absurd h.2 hp
  ·have h1 : ¬ y ∈ (if p (i : Int) = true then [(i : Int)] else []) := by
    split
    ·simpa using e
    ·simp
   constructor
   ·rintro (h | h)
    ·exact absurd h h1
    ·exact ⟨by omega, h.2⟩
   ·intro h
    exact .inr ⟨by omega, h.2⟩
theorem fromN_asc (p : Int → Bool) : ∀ d i : Nat, (fromN p i d).Pairwise (· < ·) := by
 intro d
 induction d with
 | zero => exact fun i => List.Pairwise.nil
 | succ d ih =>
  intro i
  unfold fromN
  split
  ·refine List.pairwise_cons.2 ⟨fun y hy => ?_, ih (i + 1)⟩
   have := ((fromN_mem p y d (i + 1)).1 hy).1
   omega
  ·exact ih (i + 1)
theorem fromN_len (p : Int → Bool) : ∀ d i : Nat, (fromN p i d).length ≤ d := by
 intro d
 induction d with
 | zero => exact fun i => Nat.le_refl _
 | succ d ih =>
  intro i
  unfold fromN
  have := ih (i + 1)
  rw [List.length_append]
  split
  ·rw [List.length_singleton]; omega
  ·rw [List.length_nil]; omega
theorem asc_same : ∀ (l m : List Int), l.Pairwise (· < ·) → m.Pairwise (· < ·) → (∀ y, y ∈ l ↔ y ∈ m) → l = m
 | [], [], _, _, _ => rfl
 | [], b :: m, _, _, h => by have := (h b).2 (by simp); simp at this
 | a :: l, [], _, _, h => by have := (h a).1 (by simp); simp at this
 | a :: l, b :: m, hl, hm, h => by
  rw [List.pairwise_cons] at hl hm
  have hab : a = b := by
   rcases List.mem_cons.1 ((h a).1 (by simp)) with e | h1
   ·exact e
   ·rcases List.mem_cons.1 ((h b).2 (by simp)) with e | h2
    ·exact e.symm
    ·have h3 := hm.1 a h1
     have h4 := hl.1 b h2
     omega
  subst hab
  rw [asc_same l m hl.2 hm.2 (fun y => ?_)]
  constructor
  ·intro hy
   rcases List.mem_cons.1 ((h y).1 (List.mem_cons_of_mem _ hy)) with rfl | h1
   ·have := hl.1 y hy
    omega
   ·exact h1
  ·intro hy
   rcases List.mem_cons.1 ((h y).2 (List.mem_cons_of_mem _ hy)) with rfl | h1
   ·have := hm.1 y hy
    omega
   ·exact h1
def hitB (xs : List (List Int)) (s : List Int) (k : Int) : Bool := xs.any fun r => decide (rd r 1 = k ∧ rd r 0 ∈ s)
def hits (n : Int) (xs : List (List Int)) (s : List Int) : List Int := if isGraph n xs = true then fromN (hitB xs s) 0 n.toNat else []
theorem hits_len (n : Int) (xs : List (List Int)) (s : List Int) : (hits n xs s).length ≤ 10 := by
 unfold hits
 split
 ·rename_i h
  have h1 := isGraph_n h
  have h2 := fromN_len (hitB xs s) n.toNat 0
  omega
 ·simp
theorem hitS_l1 (n : Int) (xs : List (List Int)) (s : List Int) (hg : isGraph n xs = true) (hn : xs.length ≤ 1048576) (hs : s.length ≤ 1048576) (kk : Int) (acc : List Int) (ha : acc.length ≤ 1048576) (R : List Int) : ∀ (zs : List (List Int)) (i : Nat) (b : Bool), xs.drop i = zs → Ev (fun k => spec_HitBy.l0 k s (if (b || hitB zs s kk) = true then acc ++ [kk] else acc) (wrap64 (kk + 1)) n xs) R → Ev (fun k => spec_HitBy.l1 k s acc kk b (i : Int) n xs) R := by
 intro zs
 induction zs with
 | nil =>
  intro i b h hR
  have := at_end h
  refine Ev.step (fun k => by rw [spec_HitBy.l1]) (ev_neg (by omega) ?_)
  rw [show hitB [] s kk = false from rfl, Bool.or_false] at hR
  refine ev_ite (fun e => ev_pos (by omega) ?_) (fun e => ?_)
  ·rw [if_pos e] at hR
   exact hR
  ·rw [if_neg e] at hR
   exact hR
 | cons z zs ih =>
  intro i b h hR
  obtain ⟨hlt, hz, h2, _⟩ := at_drop h
  have hr : rd_L2 xs (i : Int) = z := getD_at hz
  have hlen := (isGraph_row hg (List.mem_of_getElem? hz)).1
  have hcons : hitB (z :: zs) s kk = (decide (rd z 1 = kk ∧ rd z 0 ∈ s) || hitB zs s kk) := rfl
  refine Ev.step (fun k => by rw [spec_HitBy.l1]) (ev_pos (by omega) ?_)
  rw [hr, wrap_id (x := (i : Int) + 1) (by omega) (by omega)]
  refine ev_ite (fun e => ih (i + 1) true h2 ?_) (fun e => ev_pos (by omega) (ev_pos (by omega) (ev_ite (fun e1 => ev_pos (by omega) (Ev.bind (l4Has_ev s (rd z 0) (by omega)) (ih (i + 1) _ h2 ?_))) (fun e1 => ih (i + 1) false h2 ?_))))
  ·rw [e] at hR
   rw [Bool.true_or] at hR ⊢
   exact hR
  ·rw [hcons, show b = false by simpa using e, Bool.false_or] at hR
   have : decide (rd z 1 = kk ∧ rd z 0 ∈ s) = decide (rd z 0 ∈ s) := decide_eq_decide.2 ⟨fun h => h.2, fun h => ⟨e1, h⟩⟩
   rw [this] at hR
   exact hR
  ·rw [hcons, show b = false by simpa using e, Bool.false_or, decide_eq_false (fun h => e1 h.1)] at hR
   exact hR
theorem hitS_l0 (n : Int) (xs : List (List Int)) (s : List Int) (hg : isGraph n xs = true) (hn : xs.length ≤ 1048576) (hs : s.length ≤ 1048576) : ∀ (d i : Nat) (acc : List Int), (i : Int) + d = n → acc.length ≤ i → Ev (fun k => spec_HitBy.l0 k s acc (i : Int) n xs) (acc ++ fromN (hitB xs s) i d) := by
 have hb := isGraph_n hg
 intro d
 induction d with
 | zero =>
  intro i acc h hl
  refine Ev.step (fun k => by rw [spec_HitBy.l0]) (ev_neg (by omega) (Ev.step (fun k => by rw [spec_HitBy.j1]) ?_))
  exact ev_neg (by decide) (ev_eq (Ev.now _) (by simp [fromN]))
 | succ d ih =>
  intro i acc h hl
  refine Ev.step (fun k => by rw [spec_HitBy.l0]) (ev_pos (by omega) (Ev.bind (isGraph_spec n xs hn) ?_))
  rw [hg]
  refine Ev.step (fun k => by rw [spec_HitBy.j1]) (ev_pos rfl ?_)
  refine hitS_l1 n xs s hg hn hs (i : Int) acc (by omega) _ xs 0 false rfl ?_
  rw [wrap_id (by omega) (by omega), Bool.false_or]
  unfold fromN
  split
  ·refine ev_eq (ih (i + 1) _ (by omega) (by rw [List.length_append, List.length_singleton]; omega)) (by simp)
  ·exact ih (i + 1) acc (by omega) (by omega)
theorem hits_spec (n : Int) (xs : List (List Int)) (s : List Int) (hn : xs.length ≤ 1048576) (hs : s.length ≤ 1048576) : Ev (fun k => spec_HitBy.f k n xs s) (hits n xs s) := by
 unfold spec_HitBy.f hits
 by_cases hg : isGraph n xs = true
 ·rw [if_pos hg]
  have hb := isGraph_n hg
  exact hitS_l0 n xs s hg hn hs n.toNat 0 [] (by omega) (Nat.le_refl _)
 ·rw [if_neg hg]
  refine Ev.step (fun k => by rw [spec_HitBy.l0]) (ev_ite (fun _ => Ev.bind (isGraph_spec n xs hn) ?_) (fun _ => Ev.step (fun k => by rw [spec_HitBy.j1]) (ev_neg (by decide) (Ev.now _))))
  rw [show isGraph n xs = false by simpa using hg]
  exact Ev.step (fun k => by rw [spec_HitBy.j1]) (ev_neg (by decide) (Ev.now _))
theorem hitI_l0 (n : Int) (xs : List (List Int)) (s : List Int) (hn : xs.length ≤ 1048576) (hs : s.length ≤ 1048576) : ∀ (zs : List Int) (i : Nat) (acc : List Int), s.drop i = zs → i ≤ s.length → acc.length ≤ i * 1048576 → Ev (fun k => impl_HitBy.l0 k acc s (s.length : Int) (i : Int) n xs) (Go.Lib.compact (sorted_ (acc ++ zs.flatMap (victims n xs)))) := by
 intro zs
 induction zs with
 | nil =>
  intro i acc h hle hl
  have := at_end h
  refine Ev.step (fun k => by rw [impl_HitBy.l0]) (ev_neg (by omega) ?_)
  by_cases hi2 : acc.length < 4611686018427387904
  ·refine ev_bind0 (a := sorted_ acc) ?_ (ev_bind0 (a := Go.Lib.compact (sorted_ acc)) rfl (ev_eq (Ev.now _) (by simp)))
   unfold slices_Sort_int_int.f
   rw [if_pos hi2]
  ·exfalso
   omega
 | cons z zs ih =>
  intro i acc h hle hl
  obtain ⟨hlt, hz, h2, _⟩ := at_drop h
  have hr : rd s (i : Int) = z := rd_get hz
  have hv := victims_length n xs z
  refine Ev.step (fun k => by rw [impl_HitBy.l0]) (ev_pos (by omega) (ev_pos (by omega) (ev_pos (by omega) ?_)))
  rw [hr, wrap_id (by omega) (by omega)]
  refine Ev.bind (victims_impl n xs z hn) (ev_pos (by omega) (ev_eq (ih (i + 1) _ h2 (by omega) (by rw [List.length_append]; omega)) ?_))
  rw [List.flatMap_cons, List.append_assoc]
theorem hits_impl (n : Int) (xs : List (List Int)) (s : List Int) (hn : xs.length ≤ 1048576) (hs : s.length ≤ 1024) : Ev (fun k => impl_HitBy.f k n xs s) (hits n xs s) := by
 unfold impl_HitBy.f
 refine ev_eq (hitI_l0 n xs s hn (by omega) s 0 [] rfl (by omega) (by simp)) ?_
 have hasc : (hits n xs s).Pairwise (· < ·) := by
  unfold hits
  split
  ·exact fromN_asc _ _ _
  ·exact List.Pairwise.nil
 refine asc_same _ _ (compact_asc _ (sorted_asc _)) hasc (fun y => ?_)
 rw [compact_mem, sorted_mem, List.nil_append, List.mem_flatMap]
 have hd : ∀ a, y ∈ victims n xs a ↔ does n xs a y = true := fun a => by rw [← victims_mem, decide_eq_true_eq]
 unfold hits
 by_cases hg : isGraph n xs = true
 ·rw [if_pos hg, fromN_mem]
  unfold hitB
  rw [List.any_eq_true]
  constructor
  ·rintro ⟨a, ha, hy⟩
   rw [hd] at hy
   have hrange := does_range hy
   unfold does at hy
   rw [Bool.and_eq_true, List.any_eq_true] at hy
   obtain ⟨_, r, hr, he⟩ := hy
   have he := of_decide_eq_true he
   exact ⟨by have := isGraph_n hg; omega, r, hr, decide_eq_true ⟨he.2, by rw [he.1]; exact ha⟩⟩
  ·rintro ⟨_, r, hr, he⟩
   have he := of_decide_eq_true he
   refine ⟨rd r 0, he.2, ?_⟩
   rw [hd]
   unfold does
   rw [Bool.and_eq_true, List.any_eq_true]
   exact ⟨hg, r, hr, decide_eq_true ⟨rfl, he.1⟩⟩
 ·rw [if_neg hg]
  refine ⟨?_, fun h => absurd h (by simp)⟩
  rintro ⟨a, _, hy⟩
  rw [hd] at hy
  unfold does at hy
  rw [Bool.and_eq_true] at hy
  exact absurd hy.1 hg
theorem isSetS_l0 (n : Int) (xs : List (List Int)) (cs : List Int) (ha : cs.length ≤ 1048576) : ∀ (zs : List Int) (i : Nat), cs.drop i = zs → Ev (fun k => spec_IsSet.l0 k cs (i : Int) n xs) (zs.all (inR n) && upward (if i = 0 then zs else rd cs ((i : Int) - 1) :: zs)) := by
 intro zs
 induction zs with
 | nil =>
  intro i h
  have := at_end h
  refine Ev.step (fun k => by rw [spec_IsSet.l0]) (ev_neg (by omega) (ev_eq (Ev.now _) ?_))
  split <;> rfl
 | cons z zs ih =>
  intro i h
  obtain ⟨hlt, hz, h2, _⟩ := at_drop h
  have hr : rd cs (i : Int) = z := rd_get hz
  have hi1 : Ev (fun k => spec_IsSet.l0 k cs (wrap64 ((i : Int) + 1)) n xs) (zs.all (inR n) && upward (z :: zs)) := by
   rw [wrap_id (x := (i : Int) + 1) (by omega) (by omega)]
   have := ih (i + 1) h2
   rw [if_neg (by omega), show ((i + 1 : Nat) : Int) - 1 = (i : Int) by omega, hr] at this
   exact this
  refine Ev.step (fun k => by rw [spec_IsSet.l0]) ?_
  refine ev_pos (by omega) (ev_pos (by omega) ?_)
  rw [hr]
  refine ev_bind0 (l1In_eq _ _ _) (ev_ite (fun e => ?_) (fun e => ev_eq (Ev.now _) ?_))
  ·have hz1 : inR n z = true := e
   by_cases h0 : i = 0
   ·subst h0
    refine ev_neg (by omega) (ev_eq hi1 ?_)
    rw [if_pos rfl, List.all_cons, hz1, Bool.true_and]
   ·rw [wrap_id (x := (i : Int) - 1) (by omega) (by omega)]
    refine ev_pos (by omega) (ev_pos (by omega) (ev_pos (by omega) (ev_ite (fun e2 => ev_eq (Ev.now _) ?_) (fun e2 => ev_eq hi1 ?_))))
    ·rw [if_neg h0, show upward (rd cs ((i : Int) - 1) :: z :: zs) = (decide (rd cs ((i : Int) - 1) < z) && upward (z :: zs)) from rfl, decide_eq_false (by omega), Bool.false_and, Bool.and_false]
    ·rw [if_neg h0, show upward (rd cs ((i : Int) - 1) :: z :: zs) = (decide (rd cs ((i : Int) - 1) < z) && upward (z :: zs)) from rfl, decide_eq_true (by omega), Bool.true_and, List.all_cons, hz1, Bool.true_and]
  ·have hz1 : inR n z = false := by simpa [inR] using e
   rw [List.all_cons, hz1, Bool.false_and, Bool.false_and]
theorem isSetS_ev (n : Int) (xs : List (List Int)) (cs : List Int) (hn : xs.length ≤ 1048576) (ha : cs.length ≤ 1048576) : Ev (fun k => spec_IsSet.f k n xs cs) (isSet n xs cs) := by
 unfold spec_IsSet.f isSet
 refine Ev.bind (isGraph_spec n xs hn) (ev_ite (fun e => ?_) (fun e => ev_eq (Ev.now _) ?_))
 ·rw [e, Bool.true_and]
  exact isSetS_l0 n xs cs ha cs 0 rfl
 ·rw [show isGraph n xs = false by simpa using e, Bool.false_and]
def freeS (n : Int) (xs : List (List Int)) (s : List Int) : Bool := isSet n xs s && (hits n xs s).all fun a => !decide (a ∈ s)
theorem freeS_l0 (n : Int) (xs : List (List Int)) (s h : List Int) (hn : xs.length ≤ 1048576) (hs : s.length ≤ 1048576) (hh : h.length ≤ 1048576) : ∀ (zs : List Int) (i : Nat), s.drop i = zs → Ev (fun k => spec_IsFree.l0 k s h (i : Int) n xs) ((zs.all fun a => !decide (a ∈ h)) && isSet n xs s) := by
 intro zs
 induction zs with
 | nil =>
  intro i he
  have := at_end he
  refine Ev.step (fun k => by rw [spec_IsFree.l0]) (ev_neg (by omega) (Ev.bind (isSetS_ev n xs s hn hs) (ev_eq (Ev.now _) (by simp))))
 | cons z zs ih =>
  intro i he
  obtain ⟨hlt, hz, h2, _⟩ := at_drop he
  have hr : rd s (i : Int) = z := rd_get hz
  refine Ev.step (fun k => by rw [spec_IsFree.l0]) (ev_pos (by omega) (ev_pos (by omega) ?_))
  rw [hr, wrap_id (by omega) (by omega)]
  refine Ev.bind (l4Has_ev h z (by omega)) (ev_ite (fun e => ev_eq (Ev.now _) ?_) (fun e => ev_eq (ih (i + 1) h2) ?_))
  ·rw [List.all_cons, e]
   rfl
  ·rw [List.all_cons, show decide (z ∈ h) = false by simpa using e]
   simp
theorem free_spec (n : Int) (xs : List (List Int)) (s : List Int) (hn : xs.length ≤ 1048576) (hs : s.length ≤ 1048576) : Ev (fun k => spec_IsFree.f k n xs s) (freeS n xs s) := by
 unfold spec_IsFree.f freeS
 have hl := hits_len n xs s
 refine Ev.bind (hits_spec n xs s hn hs) (ev_eq (freeS_l0 n xs s _ hn hs (by omega) s 0 rfl) ?_)
 rw [Bool.and_comm, Bool.eq_iff_iff, Bool.and_eq_true, Bool.and_eq_true, List.all_eq_true, List.all_eq_true]
 simp only [Bool.not_eq_true', decide_eq_false_iff_not]
 exact ⟨fun h => ⟨h.1, fun a ha hb => h.2 a hb ha⟩, fun h => ⟨h.1, fun a ha hb => h.2 a hb ha⟩⟩
theorem freeI_l0 (s h : List Int) (hs : s.length ≤ 1048576) (hh : h.length ≤ 1048576) : ∀ (zs : List Int) (i : Nat), h.drop i = zs → Ev (fun k => impl_IsFree.l0 k s h (h.length : Int) (i : Int)) (zs.all fun a => !decide (a ∈ s)) := by
 intro zs
 induction zs with
 | nil =>
  intro i he
  have := at_end he
  refine Ev.step (fun k => by rw [impl_IsFree.l0]) ?_
  exact ev_neg (by omega) (Ev.now _)
 | cons z zs ih =>
  intro i he
  obtain ⟨hlt, hz, h2, _⟩ := at_drop he
  have hr : rd h (i : Int) = z := rd_get hz
  refine Ev.step (fun k => by rw [impl_IsFree.l0]) (ev_pos (by omega) (ev_pos (by omega) (ev_pos (by omega) ?_)))
  rw [hr, wrap_id (by omega) (by omega)]
  refine Ev.bind (containsInt_ev s z (by omega)) (ev_ite (fun e => ev_eq (Ev.now _) ?_) (fun e => ev_eq (ih (i + 1) h2) ?_))
  ·rw [List.all_cons, e]
   rfl
  ·rw [List.all_cons, show decide (z ∈ s) = false by simpa using e]
   simp
theorem free_impl (n : Int) (xs : List (List Int)) (s : List Int) (hn : xs.length ≤ 1048576) (hs : s.length ≤ 1024) : Ev (fun k => impl_IsFree.f k n xs s) (freeS n xs s) := by
 unfold impl_IsFree.f freeS
 have hl := hits_len n xs s
 refine Ev.bind (isSet_ev n xs s hn (by omega)) (ev_ite (fun e => Ev.bind (hits_impl n xs s hn hs) (ev_eq (freeI_l0 s (hits n xs s) (by omega) (by omega) (hits n xs s) 0 rfl) ?_)) (fun e => ev_eq (Ev.now _) ?_))
 ·rw [e, Bool.true_and]
 ·rw [show isSet n xs s = false by simpa using e, Bool.false_and]
def defends (n : Int) (xs : List (List Int)) (s : List Int) (c : Int) : Bool := isSet n xs s && (inR n c && (attackers n xs c).all fun a => decide (a ∈ hits n xs s))
theorem defS_l0 (h at_ : List Int) (hh : h.length ≤ 1048576) (ha : at_.length ≤ 1048576) : ∀ (zs : List Int) (i : Nat), at_.drop i = zs → Ev (fun k => spec_Defends.l0 k h at_ (i : Int)) (zs.all fun a => decide (a ∈ h)) := by
 intro zs
 induction zs with
 | nil =>
  intro i he
  have := at_end he
  refine Ev.step (fun k => by rw [spec_Defends.l0]) ?_
  exact ev_neg (by omega) (Ev.now _)
 | cons z zs ih =>
  intro i he
  obtain ⟨hlt, hz, h2, _⟩ := at_drop he
  have hr : rd at_ (i : Int) = z := rd_get hz
  refine Ev.step (fun k => by rw [spec_Defends.l0]) (ev_pos (by omega) (ev_pos (by omega) ?_))
  rw [hr, wrap_id (by omega) (by omega)]
  refine Ev.bind (l4Has_ev h z (by omega)) (ev_ite (fun e => ev_eq (ih (i + 1) h2) ?_) (fun e => ev_eq (Ev.now _) ?_))
  ·rw [List.all_cons, e, Bool.true_and]
  ·rw [List.all_cons, show decide (z ∈ h) = false by simpa using e, Bool.false_and]
theorem defI_l0 (h at_ : List Int) (hh : h.length ≤ 1048576) (ha : at_.length ≤ 1048576) : ∀ (zs : List Int) (i : Nat), at_.drop i = zs → Ev (fun k => impl_Defends.l0 k h at_ (at_.length : Int) (i : Int)) (zs.all fun a => decide (a ∈ h)) := by
 intro zs
 induction zs with
 | nil =>
  intro i he
  have := at_end he
  refine Ev.step (fun k => by rw [impl_Defends.l0]) ?_
  exact ev_neg (by omega) (Ev.now _)
 | cons z zs ih =>
  intro i he
  obtain ⟨hlt, hz, h2, _⟩ := at_drop he
  have hr : rd at_ (i : Int) = z := rd_get hz
  refine Ev.step (fun k => by rw [impl_Defends.l0]) (ev_pos (by omega) (ev_pos (by omega) (ev_pos (by omega) ?_)))
  rw [hr, wrap_id (by omega) (by omega)]
  refine Ev.bind (containsInt_ev h z (by omega)) (ev_ite (fun e => ev_eq (ih (i + 1) h2) ?_) (fun e => ev_eq (Ev.now _) ?_))
  ·rw [List.all_cons, e, Bool.true_and]
  ·rw [List.all_cons, show decide (z ∈ h) = false by simpa using e, Bool.false_and]
theorem defends_spec (n : Int) (xs : List (List Int)) (s : List Int) (c : Int) (hn : xs.length ≤ 1048576) (hs : s.length ≤ 1048576) : Ev (fun k => spec_Defends.f k n xs s c) (defends n xs s c) := by
 unfold spec_Defends.f defends
 have hl := hits_len n xs s
 have hal := attackers_length n xs c
 have bad : Ev (fun k => spec_Defends.j0 k s c true n xs) false := Ev.step (fun k => by rw [spec_Defends.j0]) (ev_pos rfl (Ev.now _))
 refine Ev.bind (isSetS_ev n xs s hn hs) (ev_ite (fun e => ev_bind0 (l1In_eq _ _ _) ?_) (fun e => ev_eq bad ?_))
 ·rw [e, Bool.true_and]
  have hin : decide (0 ≤ c ∧ c ≤ wrap64 (n - 1)) = inR n c := rfl
  rw [hin]
  cases hc : inR n c with
  | true =>
   refine Ev.step (fun k => by rw [spec_Defends.j0]) (ev_neg (by decide) (Ev.bind (hits_spec n xs s hn hs) (Ev.bind (attackers_spec n xs c hn) ?_)))
   rw [Bool.true_and]
   exact defS_l0 _ _ (by omega) (by omega) _ 0 rfl
  | false =>
   rw [Bool.false_and]
   exact bad
 ·rw [show isSet n xs s = false by simpa using e, Bool.false_and]
theorem defends_impl (n : Int) (xs : List (List Int)) (s : List Int) (c : Int) (hn : xs.length ≤ 1048576) (hs : s.length ≤ 1024) : Ev (fun k => impl_Defends.f k n xs s c) (defends n xs s c) := by
 unfold impl_Defends.f defends
 have hl := hits_len n xs s
 have hal := attackers_length n xs c
 have bad : Ev (fun k => impl_Defends.j0 k s c true n xs) false := Ev.step (fun k => by rw [impl_Defends.j0]) (ev_pos rfl (Ev.now _))
 refine Ev.bind (isSet_ev n xs s hn (by omega)) (ev_ite (fun e => ev_bind0 (isClaim_eq _ _ _) ?_) (fun e => ev_eq bad ?_))
 ·rw [e, Bool.true_and]
  have hin : decide (0 ≤ c ∧ c ≤ wrap64 (n - 1)) = inR n c := rfl
  rw [hin]
  cases hc : inR n c with
  | true =>
   refine Ev.step (fun k => by rw [impl_Defends.j0]) (ev_neg (by decide) (Ev.bind (hits_impl n xs s hn hs) (Ev.bind (attackers_impl n xs c hn) ?_)))
   rw [Bool.true_and]
   exact defI_l0 _ _ (by omega) (by omega) _ 0 rfl
  | false =>
   rw [Bool.false_and]
   exact bad
 ·rw [show isSet n xs s = false by simpa using e, Bool.false_and]
def defended (n : Int) (xs : List (List Int)) (s : List Int) : List Int := if isSet n xs s = true then fromN (defends n xs s) 0 n.toNat else []
theorem isSet_n {n : Int} {xs : List (List Int)} {s : List Int} (h : isSet n xs s = true) : 0 ≤ n ∧ n ≤ 10 := by
 unfold isSet at h
 exact isGraph_n (Bool.and_eq_true_iff.1 h).1
theorem defended_len (n : Int) (xs : List (List Int)) (s : List Int) : (defended n xs s).length ≤ 10 := by
 unfold defended
 split
 ·rename_i h
  have h1 := isSet_n h
  have h2 := fromN_len (defends n xs s) n.toNat 0
  omega
 ·simp
theorem defdS_l0 (n : Int) (xs : List (List Int)) (s : List Int) (hset : isSet n xs s = true) (hn : xs.length ≤ 1048576) (hs : s.length ≤ 1048576) : ∀ (d i : Nat) (acc : List Int), (i : Int) + d = n → acc.length ≤ i → Ev (fun k => spec_DefendedBy.l0 k s acc (i : Int) n xs) (acc ++ fromN (defends n xs s) i d) := by
 have hb := isSet_n hset
 intro d
 induction d with
 | zero =>
  intro i acc h hl
  refine Ev.step (fun k => by rw [spec_DefendedBy.l0]) (ev_neg (by omega) (Ev.step (fun k => by rw [spec_DefendedBy.j1]) ?_))
  exact ev_neg (by decide) (ev_eq (Ev.now _) (by simp [fromN]))
 | succ d ih =>
  intro i acc h hl
  refine Ev.step (fun k => by rw [spec_DefendedBy.l0]) (ev_pos (by omega) (Ev.bind (isSetS_ev n xs s hn hs) ?_))
  rw [hset]
  refine Ev.step (fun k => by rw [spec_DefendedBy.j1]) (ev_pos rfl (Ev.bind (defends_spec n xs s (i : Int) hn hs) ?_))
  rw [wrap_id (by omega) (by omega)]
  unfold fromN
  refine ev_ite (fun e => ev_pos (by omega) (ev_eq (ih (i + 1) _ (by omega) (by rw [List.length_append, List.length_singleton]; omega)) ?_)) (fun e => ev_eq (ih (i + 1) acc (by omega) (by omega)) ?_)
  ·rw [if_pos e, List.append_assoc]
  ·rw [if_neg e, List.nil_append]
theorem defended_spec (n : Int) (xs : List (List Int)) (s : List Int) (hn : xs.length ≤ 1048576) (hs : s.length ≤ 1048576) : Ev (fun k => spec_DefendedBy.f k n xs s) (defended n xs s) := by
 unfold spec_DefendedBy.f defended
 by_cases hset : isSet n xs s = true
 ·rw [if_pos hset]
  have hb := isSet_n hset
  exact defdS_l0 n xs s hset hn hs n.toNat 0 [] (by omega) (Nat.le_refl _)
 ·rw [if_neg hset]
  refine Ev.step (fun k => by rw [spec_DefendedBy.l0]) (ev_ite (fun _ => Ev.bind (isSetS_ev n xs s hn hs) ?_) (fun _ => Ev.step (fun k => by rw [spec_DefendedBy.j1]) (ev_neg (by decide) (Ev.now _))))
  rw [show isSet n xs s = false by simpa using hset]
  exact Ev.step (fun k => by rw [spec_DefendedBy.j1]) (ev_neg (by decide) (Ev.now _))
theorem defdI_l0 (n : Int) (xs : List (List Int)) (s : List Int) (hb : 0 ≤ n ∧ n ≤ 10) (hn : xs.length ≤ 1048576) (hs : s.length ≤ 1024) : ∀ (d i : Nat) (acc : List Int), (i : Int) + d = n → acc.length ≤ i → Ev (fun k => impl_DefendedBy.l0 k s acc n (i : Int) n xs) (acc ++ fromN (defends n xs s) i d) := by
 intro d
 induction d with
 | zero =>
  intro i acc h hl
  exact Ev.step (fun k => by rw [impl_DefendedBy.l0]) (ev_neg (by omega) (ev_eq (Ev.now _) (by simp [fromN])))
 | succ d ih =>
  intro i acc h hl
  refine Ev.step (fun k => by rw [impl_DefendedBy.l0]) (ev_pos (by omega) (Ev.bind (defends_impl n xs s (i : Int) hn hs) ?_))
  rw [wrap_id (by omega) (by omega)]
  unfold fromN
  refine ev_ite (fun e => ev_pos (by omega) (ev_eq (ih (i + 1) _ (by omega) (by rw [List.length_append, List.length_singleton]; omega)) ?_)) (fun e => ev_eq (ih (i + 1) acc (by omega) (by omega)) ?_)
  ·rw [if_pos e, List.append_assoc]
  ·rw [if_neg e, List.nil_append]
theorem defended_impl (n : Int) (xs : List (List Int)) (s : List Int) (hn : xs.length ≤ 1048576) (hs : s.length ≤ 1024) : Ev (fun k => impl_DefendedBy.f k n xs s) (defended n xs s) := by
 unfold impl_DefendedBy.f defended
 refine ev_bind0 rfl (Ev.bind (isSet_ev n xs s hn (by omega)) (ev_ite (fun e => ?_) (fun e => ?_)))
 ·rw [if_pos e]
  have hb := isSet_n e
  exact defdI_l0 n xs s hb hn hs n.toNat 0 [] (by omega) (Nat.le_refl _)
 ·rw [if_neg e]
  exact Ev.now _
theorem equalS_l0 (xs ys : List Int) (hn : xs.length ≤ 1048576) (hl : xs.length = ys.length) : ∀ (zs us : List Int) (i : Nat), xs.drop i = zs → ys.drop i = us → Ev (fun k => spec_EqualInts.l0 k xs ys (i : Int)) (decide (zs = us)) := by
 intro zs
 induction zs with
 | nil =>
  intro us i h hu
  have := at_end h
  rw [List.drop_of_length_le (by omega)] at hu
  subst hu
  exact Ev.step (fun k => by rw [spec_EqualInts.l0]) (ev_neg (by omega) (ev_eq (Ev.now _) (by simp)))
 | cons z zs ih =>
  intro us i h hu
  obtain ⟨hlt, hz, h2, _⟩ := at_drop h
  cases us with
  | nil => have := at_end hu; omega
  | cons u us =>
   obtain ⟨_, hzu, hu2, _⟩ := at_drop hu
   refine Ev.step (fun k => by rw [spec_EqualInts.l0]) (ev_pos (by omega) (ev_pos (by omega) (ev_pos (by omega) ?_)))
   rw [rd_get hz, rd_get hzu, wrap_id (by omega) (by omega)]
   exact ev_ite (fun e => ev_eq (ih us (i + 1) h2 hu2) (by simp [e])) (fun e => ev_eq (Ev.now _) (by simp [e]))
theorem equalS_ev (xs ys : List Int) (hn : xs.length ≤ 1048576) : Ev (fun k => spec_EqualInts.f k xs ys) (decide (xs = ys)) := by
 unfold spec_EqualInts.f
 refine ev_ite (fun e => equalS_l0 xs ys hn (by omega) xs ys 0 rfl rfl) (fun e => ev_eq (Ev.now _) ?_)
 exact (decide_eq_false (fun h => e (by rw [h]))).symm
theorem equalI_l0 (xs ys : List Int) (hn : xs.length ≤ 1048576) (hl : xs.length = ys.length) : ∀ (zs us : List Int) (i : Nat), xs.drop i = zs → ys.drop i = us → Ev (fun k => slices_Equal_int_int.l0 k xs ys (xs.length : Int) (i : Int)) (decide (zs = us)) := by
 intro zs
 induction zs with
 | nil =>
  intro us i h hu
  have := at_end h
  rw [List.drop_of_length_le (by omega)] at hu
  subst hu
  exact Ev.step (fun k => by rw [slices_Equal_int_int.l0]) (ev_neg (by omega) (ev_eq (Ev.now _) (by simp)))
 | cons z zs ih =>
  intro us i h hu
  obtain ⟨hlt, hz, h2, _⟩ := at_drop h
  cases us with
  | nil => have := at_end hu; omega
  | cons u us =>
   obtain ⟨_, hzu, hu2, _⟩ := at_drop hu
   refine Ev.step (fun k => by rw [slices_Equal_int_int.l0]) (ev_pos (by omega) (ev_pos (by omega) (ev_pos (by omega) (ev_pos (by omega) ?_))))
   rw [rd_get hz, rd_get hzu, wrap_id (by omega) (by omega)]
   exact ev_ite (fun e => ev_eq (ih us (i + 1) h2 hu2) (by simp [e])) (fun e => ev_eq (Ev.now _) (by simp [e]))
theorem equalI_ev (xs ys : List Int) (hn : xs.length ≤ 1048576) : Ev (fun k => slices_Equal_int_int.f k xs ys) (decide (xs = ys)) := by
 unfold slices_Equal_int_int.f
 refine ev_ite (fun e => equalI_l0 xs ys hn (by omega) xs ys 0 rfl rfl) (fun e => ev_eq (Ev.now _) ?_)
 exact (decide_eq_false (fun h => e (by rw [h]))).symm
def complete (n : Int) (xs : List (List Int)) (s : List Int) : Bool := freeS n xs s && decide (defended n xs s = s)
theorem complete_spec (n : Int) (xs : List (List Int)) (s : List Int) (hn : xs.length ≤ 1048576) (hs : s.length ≤ 1048576) : Ev (fun k => spec_IsComplete.f k n xs s) (complete n xs s) := by
 unfold spec_IsComplete.f complete
 have hl := defended_len n xs s
 refine Ev.bind (free_spec n xs s hn hs) (ev_ite (fun e => Ev.bind (defended_spec n xs s hn hs) (Ev.bind (equalS_ev _ s (by omega)) (ev_eq (Ev.now _) ?_))) (fun e => ev_eq (Ev.now _) ?_))
 ·rw [e, Bool.true_and]
 ·rw [show freeS n xs s = false by simpa using e, Bool.false_and]
theorem complete_impl (n : Int) (xs : List (List Int)) (s : List Int) (hn : xs.length ≤ 1048576) (hs : s.length ≤ 1024) : Ev (fun k => impl_IsComplete.f k n xs s) (complete n xs s) := by
 unfold impl_IsComplete.f complete
 have hl := defended_len n xs s
 refine Ev.bind (free_impl n xs s hn hs) (ev_ite (fun e => Ev.bind (defended_impl n xs s hn hs) (Ev.bind (equalI_ev _ s (by omega)) (ev_eq (Ev.now _) ?_))) (fun e => ev_eq (Ev.now _) ?_))
 ·rw [e, Bool.true_and]
 ·rw [show freeS n xs s = false by simpa using e, Bool.false_and]

theorem cmpR_cons (a b : Int) (x y : List Int) : cmpR (a :: x) (b :: y) = if a < b then -1 else if a > b then 1 else cmpR x y := by
 unfold cmpR
 simp only [List.cons_lt_cons_iff]
 by_cases h1 : a < b
 ·rw [if_pos (.inl h1), if_pos h1]
 ·rw [if_neg h1]
  by_cases h2 : a > b
  ·rw [if_neg (by rintro (h | h) <;> omega), if_pos (.inl h2), if_pos h2]
  ·rw [if_neg h2]
   have e : a = b := by omega
   subst e
   simp
theorem cmpG_l0 (xs ys : List Int) (hn : xs.length ≤ 1048576) (hm : ys.length ≤ 1048576) : ∀ (zs us : List Int) (i : Nat), xs.drop i = zs → ys.drop i = us → i ≤ xs.length → i ≤ ys.length → Ev (fun k => slices_Compare_int_int.l0 k xs ys xs (xs.length : Int) (i : Int)) (cmpR zs us) := by
 have hc : ∀ x y : Int, cmp_Compare_int.f x y = some (if x < y then -1 else if x > y then 1 else 0) := by
  intro x y
  unfold cmp_Compare_int.f cmp_isNaN_int.f
  simp only [bne_self_eq_false, Option.bind_some, Bool.false_eq_true, if_false]
  split
  ·rfl
  ·split <;> rfl
 intro zs
 induction zs with
 | nil =>
  intro us i h hu hi hj
  have := at_end h
  refine Ev.step (fun k => by rw [slices_Compare_int_int.l0]) (ev_neg (by omega) ?_)
  cases us with
  | nil =>
   have := at_end hu
   refine ev_neg (by omega) (ev_eq (Ev.now _) ?_)
   simp [cmpR]
  | cons u us =>
   obtain ⟨hlt, _⟩ := at_drop hu
   refine ev_pos (by omega) (ev_eq (Ev.now _) ?_)
   simp [cmpR]
 | cons z zs ih =>
  intro us i h hu hi hj
  obtain ⟨hlt, hz, h2, _⟩ := at_drop h
  refine Ev.step (fun k => by rw [slices_Compare_int_int.l0]) (ev_pos (by omega) (ev_pos (by omega) (ev_pos (by omega) ?_)))
  cases us with
  | nil =>
   have := at_end hu
   refine ev_pos (by omega) (ev_eq (Ev.now _) ?_)
   simp [cmpR]
  | cons u us =>
   obtain ⟨hlu, hzu, hu2, _⟩ := at_drop hu
   refine ev_neg (by omega) (ev_pos (by omega) ?_)
   rw [rd_get hz, rd_get hzu, wrap_id (by omega) (by omega), cmpR_cons]
   refine ev_bind0 (hc z u) ?_
   by_cases h1 : z < u
   ·rw [if_pos h1, if_pos h1]
    exact ev_neg (by omega) (Ev.now _)
   ·rw [if_neg h1, if_neg h1]
    by_cases h3 : z > u
    ·rw [if_pos h3, if_pos h3]
     exact ev_neg (by omega) (Ev.now _)
    ·rw [if_neg h3, if_neg h3]
     exact ev_pos rfl (ih us (i + 1) h2 hu2 (by omega) (by omega))
theorem cmpG_ev (xs ys : List Int) (hn : xs.length ≤ 1048576) (hm : ys.length ≤ 1048576) : Ev (fun k => slices_Compare_int_int.f k xs ys) (cmpR xs ys) := by
 unfold slices_Compare_int_int.f
 exact cmpG_l0 xs ys hn hm xs ys 0 rfl rfl (by omega) (by omega)
theorem evAll {α : Type} {β : Type} (g : Nat → α → Option β) (c : α → β) : ∀ l : List α, (∀ x ∈ l, ∃ K, ∀ k, K ≤ k → g k x = some (c x)) → ∃ K, ∀ k, K ≤ k → ∀ x ∈ l, g k x = some (c x) := by
 intro l
 induction l with
 | nil => exact fun _ => ⟨0, fun _ _ x hx => absurd hx (by simp)⟩
 | cons z zs ih =>
  intro h
  obtain ⟨K1, h1⟩ := h z List.mem_cons_self
  obtain ⟨K2, h2⟩ := ih (fun x hx => h x (List.mem_cons_of_mem _ hx))
  refine ⟨max K1 K2, fun k hk x hx => ?_⟩
  rcases List.mem_cons.1 hx with rfl | hx
  ·exact h1 k (by omega)
  ·exact h2 k (by omega) x hx
theorem evPairs (M : List (List Int)) (h2 : ∀ r ∈ M, r.length ≤ 1048576) : ∃ K, ∀ k, K ≤ k → ∀ x ∈ M, ∀ y ∈ M, slices_Compare_int_int.f k x y = some (cmpR x y) := by
 have h3 : ∀ l : List (List Int), (∀ x ∈ l, x ∈ M) → ∃ K, ∀ k, K ≤ k → ∀ x ∈ l, ∀ y ∈ M, slices_Compare_int_int.f k x y = some (cmpR x y) := by
  intro l
  induction l with
  | nil => exact fun _ => ⟨0, fun _ _ x hx => absurd hx (by simp)⟩
  | cons z zs ih =>
   intro hl
   obtain ⟨K1, e1⟩ := evAll (fun k y => slices_Compare_int_int.f k z y) (fun y => cmpR z y) M (fun y hy => cmpG_ev z y (h2 z (hl z List.mem_cons_self)) (h2 y hy))
   obtain ⟨K2, e2⟩ := ih (fun x hx => hl x (List.mem_cons_of_mem _ hx))
   refine ⟨max K1 K2, fun k hk x hx => ?_⟩
   rcases List.mem_cons.1 hx with rfl | hx
   ·exact e1 k (by omega)
   ·exact e2 k (by omega) x hx
 exact h3 M (fun _ h => h)
theorem sortR_pw (L : List (List Int)) : (sortR L).Pairwise (fun x y => ¬ y < x) := by
 have := List.pairwise_mergeSort (le := fun x y : List Int => decide (¬ y < x)) (fun a b c h1 h2 => by
  rw [decide_eq_true_eq] at h1 h2 ⊢
  exact List.le_trans h1 h2) (fun a b => by
  rw [Bool.or_eq_true, decide_eq_true_eq, decide_eq_true_eq]
  exact List.le_total a b) L
 exact List.Pairwise.imp (fun {a b} h => of_decide_eq_true h) this
theorem sortR_p (L : List (List Int)) : (sortR L).Perm L := List.mergeSort_perm L _
theorem sort_uniq (T L : List (List Int)) (hT : T.Pairwise (fun x y => ¬ y < x)) (hp : T.Perm L) : T = sortR L :=
 List.Perm.eq_of_pairwise (le := fun x y => ¬ y < x) (fun a b _ _ hab hba => List.le_antisymm hab hba) hT (sortR_pw L) (hp.trans (sortR_p L).symm)
theorem sortR_congr {L M : List (List Int)} (h : L.Perm M) : sortR L = sortR M := sort_uniq _ _ (sortR_pw L) ((sortR_p L).trans h)
theorem ins_sorted (A B : List (List Int)) (s : List Int) (h : (A ++ B).Pairwise (fun x y => ¬ y < x)) (ha : ∀ a ∈ A, ¬ s < a) (hb : ∀ b ∈ B, ¬ b < s) : (A ++ [s] ++ B).Pairwise (fun x y => ¬ y < x) := by
 rw [List.pairwise_append] at h
 rw [List.append_assoc, List.pairwise_append]
 refine ⟨h.1, ?_, fun a ha2 b hb2 => ?_⟩
 ·rw [List.singleton_append]
  exact List.pairwise_cons.2 ⟨hb, h.2.1⟩
 ·rcases List.mem_append.1 hb2 with h3 | h3
  ·rw [List.mem_singleton.1 h3]
   exact ha a ha2
  ·exact h.2.2 a ha2 b h3
/-! the claims of a mask -/
theorem bits_and1 (n : Nat) (h : n < 9223372036854775808) : Go.bits .and .i64 (n : Int) 1 = ((n % 2 : Nat) : Int) := by
 show IntKind.i64.wrap ((BitVec.ofInt 64 (n : Int) &&& BitVec.ofInt 64 1).toNat : Int) = _
 have e : (BitVec.ofInt 64 (n : Int) &&& BitVec.ofInt 64 1).toNat = n % 2 := by
  rw [BitVec.ofInt_natCast, show BitVec.ofInt 64 1 = BitVec.ofNat 64 1 from rfl, BitVec.toNat_and, BitVec.toNat_ofNat, BitVec.toNat_ofNat, Nat.mod_eq_of_lt (show n < 2 ^ 64 by omega), Nat.mod_eq_of_lt (show 1 < 2 ^ 64 by decide), Nat.and_one_is_mod]
 rw [e]
 simp only [i64_w]
 exact wrap_id (x := ((n % 2 : Nat) : Int)) (by omega) (by omega)
def bitAt (m : Int) (i : Int) : Bool := decide (Go.bits .and .i64 (shr .i64 m i) 1 = 1)
theorem bitAt_eq (μ i : Nat) (hμ : μ < 9223372036854775808) (hi : i < 64) : bitAt (μ : Int) (i : Int) = μ.testBit i := by
 have h1 : shr .i64 (μ : Int) (i : Int) = ((μ / 2 ^ i : Nat) : Int) := by
  unfold shr
  rw [Int.toNat_natCast, show min i IntKind.i64.bits = i from Nat.min_eq_left (by show i ≤ 64; omega)]
  simp
 have h2 : μ / 2 ^ i ≤ μ := Nat.div_le_self _ _
 unfold bitAt
 rw [h1, bits_and1 _ (by omega), Nat.testBit_eq_decide_div_mod_eq]
 exact decide_eq_decide.2 (by omega)
theorem shl_pow : ∀ n : Fin 13, shl .i64 1 ((n.val : Nat) : Int) = ((2 ^ n.val : Nat) : Int) := by decide +kernel
theorem shl_n {n : Int} (h : 0 ≤ n ∧ n ≤ 10) : shl .i64 1 n = ((2 ^ n.toNat : Nat) : Int) := by
 have := shl_pow ⟨n.toNat, by omega⟩
 rwa [show (((⟨n.toNat, by omega⟩ : Fin 13).val : Nat) : Int) = n by show (n.toNat : Int) = n; omega] at this
theorem pow_le {n : Int} (h : 0 ≤ n ∧ n ≤ 10) : 2 ^ n.toNat ≤ 1024 := Nat.pow_le_pow_right (n := 2) (by decide) (show n.toNat ≤ 10 by omega)
def subsetOf (n m : Int) : List Int := fromN (bitAt m) 0 n.toNat
theorem subset_inj {n : Int} (h : 0 ≤ n ∧ n ≤ 10) {a b : Nat} (ha : a < 2 ^ n.toNat) (hb : b < 2 ^ n.toNat) (e : subsetOf n (a : Int) = subsetOf n (b : Int)) : a = b := by
 have hp := pow_le h
 refine Nat.eq_of_testBit_eq fun i => ?_
 by_cases hi : i < n.toNat
 ·have h1 : ((i : Int) ∈ subsetOf n (a : Int)) ↔ ((i : Int) ∈ subsetOf n (b : Int)) := by rw [e]
  unfold subsetOf at h1
  rw [fromN_mem, fromN_mem, bitAt_eq a i (by omega) (by omega), bitAt_eq b i (by omega) (by omega)] at h1
  rw [Bool.eq_iff_iff]
  exact ⟨fun h => (h1.1 ⟨by omega, h⟩).2, fun h => (h1.2 ⟨by omega, h⟩).2⟩
 ·have h2 : 2 ^ n.toNat ≤ 2 ^ i := Nat.pow_le_pow_right (by decide) (by omega)
  rw [Nat.testBit_lt_two_pow (by omega), Nat.testBit_lt_two_pow (by omega)]
def compl (n : Int) (xs : List (List Int)) : Nat → Nat → List (List Int)
 | _, 0 => []
 | m, d + 1 => (if complete n xs (subsetOf n (m : Int)) = true then [subsetOf n (m : Int)] else []) ++ compl n xs (m + 1) d
theorem compl_mem (n : Int) (xs : List (List Int)) (y : List Int) : ∀ d m : Nat, y ∈ compl n xs m d → ∃ j : Nat, m ≤ j ∧ j < m + d ∧ y = subsetOf n (j : Int) := by
 intro d
 induction d with
 | zero => exact fun m h => absurd h (by simp [compl])
 | succ d ih =>
  intro m h
  unfold compl at h
  rcases List.mem_append.1 h with h | h
  ·split at h
   ·exact ⟨m, by omega, by omega, List.mem_singleton.1 h⟩
   ·simp at h
  ·obtain ⟨j, h1, h2, h3⟩ := ih (m + 1) h
   exact ⟨j, by omega, by omega, h3⟩
theorem compl_len (n : Int) (xs : List (List Int)) : ∀ d m : Nat, (compl n xs m d).length ≤ d := by
 intro d
 induction d with
 | zero => exact fun m => Nat.le_refl _
 | succ d ih =>
  intro m
  unfold compl
  have := ih (m + 1)
  rw [List.length_append]
  split
  ·rw [List.length_singleton]; omega
  ·rw [List.length_nil]; omega
theorem compl_nodup (n : Int) (xs : List (List Int)) (h : 0 ≤ n ∧ n ≤ 10) : ∀ d m : Nat, m + d ≤ 2 ^ n.toNat → (compl n xs m d).Nodup := by
 intro d
 induction d with
 | zero => exact fun m _ => List.nodup_nil
 | succ d ih =>
  intro m hm
  unfold compl
  split
  ·rw [List.singleton_append, List.nodup_cons]
   refine ⟨fun hin => ?_, ih (m + 1) (by omega)⟩
   obtain ⟨j, h1, h2, h3⟩ := compl_mem n xs _ d (m + 1) hin
   have := subset_inj h (by omega) (by omega) h3
   omega
  ·exact ih (m + 1) (by omega)
theorem subset_len {n : Int} (h : 0 ≤ n ∧ n ≤ 10) (m : Int) : (subsetOf n m).length ≤ 10 := by
 have := fromN_len (bitAt m) n.toNat 0
 unfold subsetOf
 omega
theorem before_l0 (xs ys : List Int) (hn : xs.length ≤ 1048576) (hm : ys.length ≤ 1048576) : ∀ (zs us : List Int) (i : Nat), xs.drop i = zs → ys.drop i = us → i ≤ xs.length → i ≤ ys.length → Ev (fun k => spec_l7Before.l0 k xs ys (i : Int)) (decide (zs < us)) := by
 intro zs
 induction zs with
 | nil =>
  intro us i h hu hi hj
  have := at_end h
  refine Ev.step (fun k => by rw [spec_l7Before.l0]) (ev_neg (by omega) (Ev.step (fun k => by rw [spec_l7Before.j1]) (ev_neg (by decide) (ev_eq (Ev.now _) ?_))))
  cases us with
  | nil =>
   have := at_end hu
   rw [decide_eq_false (by omega)]
   simp
  | cons u us =>
   obtain ⟨hlt, _⟩ := at_drop hu
   rw [decide_eq_true (by omega)]
   simp
 | cons z zs ih =>
  intro us i h hu hi hj
  obtain ⟨hlt, hz, h2, _⟩ := at_drop h
  refine Ev.step (fun k => by rw [spec_l7Before.l0]) (ev_pos (by omega) ?_)
  cases us with
  | nil =>
   have := at_end hu
   rw [decide_eq_false (by omega)]
   refine Ev.step (fun k => by rw [spec_l7Before.j1]) (ev_neg (by decide) (ev_eq (Ev.now _) ?_))
   rw [decide_eq_false (by omega)]
   simp
  | cons u us =>
   obtain ⟨hlu, hzu, hu2, _⟩ := at_drop hu
   rw [decide_eq_true (by omega)]
   refine Ev.step (fun k => by rw [spec_l7Before.j1]) (ev_pos rfl (ev_pos (by omega) (ev_pos (by omega) (ev_pos (by omega) ?_))))
   rw [rd_get hz, rd_get hzu, wrap_id (by omega) (by omega)]
   refine ev_ite (fun e => ev_eq (ih us (i + 1) h2 hu2 (by omega) (by omega)) ?_) (fun e => ev_eq (Ev.now _) ?_)
   ·refine decide_eq_decide.2 ?_
    rw [List.cons_lt_cons_iff]
    exact ⟨fun h => .inr ⟨e, h⟩, fun h => h.elim (fun h => by omega) (fun h => h.2)⟩
   ·refine decide_eq_decide.2 ?_
    rw [List.cons_lt_cons_iff]
    exact ⟨fun h => .inl h, fun h => h.elim id (fun h => absurd h.1 e)⟩
theorem before_ev (xs ys : List Int) (hn : xs.length ≤ 1048576) (hm : ys.length ≤ 1048576) : Ev (fun k => spec_l7Before.f k xs ys) (decide (xs < ys)) := by
 unfold spec_l7Before.f
 exact before_l0 xs ys hn hm xs ys 0 rfl rfl (by omega) (by omega)
theorem allS_l1 (n : Int) (xs T : List (List Int)) (m : Int) (hb : 0 ≤ n ∧ n ≤ 10) (R : List (List Int)) : ∀ (d i : Nat) (acc : List Int), (i : Int) + d = n → acc.length ≤ i → Ev (fun k => (spec_IsComplete.f k n xs (acc ++ fromN (bitAt m) i d)).bind fun t => if t = true then spec_AllComplete.l2 k T m (acc ++ fromN (bitAt m) i d) (T.length : Int) n xs else spec_AllComplete.l0 k T (wrap64 (m + 1)) n xs) R → Ev (fun k => spec_AllComplete.l1 k T m acc (i : Int) n xs) R := by
 intro d
 induction d with
 | zero =>
  intro i acc h hl hR
  rw [show acc ++ fromN (bitAt m) i 0 = acc by simp [fromN]] at hR
  exact Ev.step (fun k => by rw [spec_AllComplete.l1]) (ev_neg (by omega) hR)
 | succ d ih =>
  intro i acc h hl hR
  refine Ev.step (fun k => by rw [spec_AllComplete.l1]) (ev_pos (by omega) (ev_pos (by omega) ?_))
  rw [wrap_id (by omega) (by omega)]
  have hf : acc ++ fromN (bitAt m) i (d + 1) = (acc ++ if bitAt m (i : Int) = true then [(i : Int)] else []) ++ fromN (bitAt m) (i + 1) d := by
   rw [List.append_assoc]
   rfl
  rw [hf] at hR
  refine ev_ite (fun e => ev_bind0 rfl (ev_pos (by rw [List.length_singleton]; omega) ?_)) (fun e => ?_)
  ·rw [if_pos (show bitAt m (i : Int) = true from decide_eq_true e)] at hR
   exact ih (i + 1) _ (by omega) (by rw [List.length_append, List.length_singleton]; omega) hR
  ·rw [if_neg (show ¬ bitAt m (i : Int) = true from fun h => e (of_decide_eq_true h)), List.append_nil] at hR
   exact ih (i + 1) acc (by omega) (by omega) hR
theorem allS_l2 (n : Int) (xs T : List (List Int)) (m : Int) (s : List Int) (R : List (List Int)) (hT : T.Pairwise (fun x y => ¬ y < x)) (hl : T.length ≤ 1048576) (hi : ∀ y ∈ T, y.length ≤ 1048576) (hs : s.length ≤ 1048576) (hR : ∀ T' : List (List Int), T'.Pairwise (fun x y => ¬ y < x) → T'.Perm (T ++ [s]) → Ev (fun k => spec_AllComplete.l0 k T' (wrap64 (m + 1)) n xs) R) : ∀ j : Nat, j ≤ T.length → (∀ y ∈ T.drop j, s < y) → Ev (fun k => spec_AllComplete.l2 k T m s (j : Int) n xs) R := by
 have put : ∀ j : Nat, j ≤ T.length → (∀ a ∈ T.take j, ¬ s < a) → (∀ y ∈ T.drop j, s < y) → Ev (fun k => spec_AllComplete.l0 k (T.take j ++ [s] ++ T.drop j) (wrap64 (m + 1)) n xs) R := by
  intro j _ h1 h2
  refine hR _ (ins_sorted _ _ s (by rw [List.take_append_drop]; exact hT) h1 (fun b hb => List.lt_asymm (h2 b hb))) ?_
  refine List.Perm.trans ?_ (List.Perm.append_right [s] (List.Perm.of_eq (List.take_append_drop j T)))
  rw [List.append_assoc, List.append_assoc]
  exact List.Perm.append_left _ List.perm_append_comm
 intro j
 induction j with
 | zero =>
  intro hj hd
  refine Ev.step (fun k => by rw [spec_AllComplete.l2]) ?_
  refine ev_neg (by omega) (ev_bind0 rfl (ev_pos (by omega) (ev_pos (by omega) (ev_bind0 rfl (ev_pos ?_ (ev_bind0 rfl (ev_bind0 rfl (ev_pos ?_ (ev_bind0 rfl (ev_bind0 rfl (ev_pos ?_ ?_)))))))))))
  ·simp
  ·simp
  ·simp; omega
  ·have := put 0 (by omega) (by simp) hd
   simpa using this
 | succ j ih =>
  intro hj hd
  have hz : T[j]? = some T[j] := List.getElem?_eq_getElem (by omega)
  have hr : rd_L2 T (j : Int) = T[j] := getD_at hz
  have hw : wrap64 (((j + 1 : Nat) : Int) - 1) = (j : Int) := by rw [wrap_id (by omega) (by omega)]; omega
  refine Ev.step (fun k => by rw [spec_AllComplete.l2]) ?_
  rw [hw, hr]
  refine ev_pos (by omega) (ev_pos (by omega) (ev_pos (by omega) (Ev.bind (before_ev s T[j] hs (hi _ (List.getElem_mem _))) (ev_ite (fun e => ih (by omega) (fun y hy => ?_)) (fun e => ?_)))))
  ·rw [List.drop_eq_getElem_cons (by omega)] at hy
   rcases List.mem_cons.1 hy with rfl | hy
   ·exact of_decide_eq_true e
   ·exact hd y hy
  ·have e : ¬ s < T[j] := fun h => e (decide_eq_true h)
   refine ev_bind0 rfl (ev_pos (by omega) (ev_pos (by omega) (ev_bind0 rfl (ev_pos ?_ (ev_bind0 rfl (ev_bind0 rfl (ev_pos ?_ (ev_bind0 rfl (ev_bind0 rfl (ev_pos ?_ ?_))))))))))
   ·simp only [List.length_nil, List.length_take, Int.toNat_natCast]; omega
   ·simp only [List.length_nil, List.length_append, List.length_take, List.length_singleton, Int.toNat_natCast]; omega
   ·simp only [List.length_nil, List.length_append, List.length_take, List.length_drop, List.length_singleton, Int.toNat_natCast]; omega
   ·rw [Int.toNat_natCast, List.nil_append]
    refine put (j + 1) hj (fun a ha => ?_) hd
    rw [take_at hz] at ha
    rcases List.mem_append.1 ha with ha | ha
    ·have h3 := hT
     rw [← List.take_append_drop j T, List.pairwise_append] at h3
     have h4 := h3.2.2 a ha T[j] (by rw [List.drop_eq_getElem_cons (by omega)]; exact List.mem_cons_self)
     exact List.le_trans h4 e
    ·rw [List.mem_singleton.1 ha]
     exact e
theorem allS_l0 (n : Int) (xs : List (List Int)) (hb : 0 ≤ n ∧ n ≤ 10) (hn : xs.length ≤ 1048576) : ∀ (d m : Nat) (T : List (List Int)), m + d = 2 ^ n.toNat → T.Pairwise (fun x y => ¬ y < x) → T.length ≤ m → (∀ y ∈ T, y.length ≤ 10) → Ev (fun k => spec_AllComplete.l0 k T (m : Int) n xs) (sortR (T ++ compl n xs m d)) := by
 have hp := pow_le hb
 intro d
 induction d with
 | zero =>
  intro m T h hT hl hi
  refine Ev.step (fun k => by rw [spec_AllComplete.l0]) (ev_pos hb.1 ?_)
  rw [shl_n hb]
  refine ev_neg (by omega) (ev_eq (Ev.now _) ?_)
  rw [show compl n xs m 0 = [] from rfl, List.append_nil]
  exact sort_uniq T T hT (List.Perm.refl _)
 | succ d ih =>
  intro m T h hT hl hi
  have hsl := subset_len hb (m : Int)
  refine Ev.step (fun k => by rw [spec_AllComplete.l0]) (ev_pos hb.1 ?_)
  rw [shl_n hb]
  refine ev_pos (by omega) ?_
  refine allS_l1 n xs T (m : Int) hb _ n.toNat 0 [] (by omega) (by simp) ?_
  rw [List.nil_append, show fromN (bitAt (m : Int)) 0 n.toNat = subsetOf n (m : Int) from rfl]
  have hc : compl n xs m (d + 1) = (if complete n xs (subsetOf n (m : Int)) = true then [subsetOf n (m : Int)] else []) ++ compl n xs (m + 1) d := rfl
  rw [hc]
  refine Ev.bind (complete_spec n xs _ hn (by omega)) (ev_ite (fun e => ?_) (fun e => ?_))
  ·rw [if_pos e]
   refine allS_l2 n xs T (m : Int) _ _ hT (by omega) (fun y hy => Nat.le_trans (hi y hy) (by omega)) (by omega) (fun T' h1 h2 => ?_) T.length (Nat.le_refl _) (fun y hy => absurd hy (by simp))
   rw [wrap_id (by omega) (by omega)]
   refine ev_eq (ih (m + 1) T' (by omega) h1 (by rw [h2.length_eq, List.length_append, List.length_singleton]; omega) (fun y hy => ?_)) ?_
   ·rcases List.mem_append.1 (h2.mem_iff.1 hy) with h3 | h3
    ·exact hi y h3
    ·rw [List.mem_singleton.1 h3]
     exact hsl
   ·rw [← List.append_assoc]
    exact sortR_congr (List.Perm.append_right _ h2)
  ·rw [if_neg e, List.nil_append, wrap_id (by omega) (by omega)]
   exact ih (m + 1) T (by omega) hT (by omega) hi
def allV (n : Int) (xs : List (List Int)) : List (List Int) := if isGraph n xs = true then sortR (compl n xs 0 (2 ^ n.toNat)) else []
theorem all_spec (n : Int) (xs : List (List Int)) (hn : xs.length ≤ 1048576) : Ev (fun k => spec_AllComplete.f k n xs) (allV n xs) := by
 unfold spec_AllComplete.f allV
 refine ev_bind0 rfl (Ev.bind (isGraph_spec n xs hn) (ev_ite (fun e => ?_) (fun e => ?_)))
 ·rw [if_pos e]
  exact allS_l0 n xs (isGraph_n e) hn (2 ^ n.toNat) 0 [] (by omega) List.Pairwise.nil (Nat.le_refl _) (fun y hy => absurd hy (by simp))
 ·rw [if_neg e]
  exact Ev.now _
theorem allI_l1 (n : Int) (xs T : List (List Int)) (m N : Int) (hb : 0 ≤ n ∧ n ≤ 10) (R : List (List Int)) : ∀ (d i : Nat) (acc : List Int), (i : Int) + d = n → acc.length ≤ i → Ev (fun k => (impl_IsComplete.f k n xs (acc ++ fromN (bitAt m) i d)).bind fun t => if t = true then (if T.length < 5864062014805 then impl_AllComplete.l0 k (T ++ [acc ++ fromN (bitAt m) i d]) N (wrap64 (m + 1)) n xs else none) else impl_AllComplete.l0 k T N (wrap64 (m + 1)) n xs) R → Ev (fun k => impl_AllComplete.l1 k T m acc N m n (i : Int) n xs) R := by
 intro d
 induction d with
 | zero =>
  intro i acc h hl hR
  rw [show acc ++ fromN (bitAt m) i 0 = acc by simp [fromN]] at hR
  exact Ev.step (fun k => by rw [impl_AllComplete.l1]) (ev_neg (by omega) hR)
 | succ d ih =>
  intro i acc h hl hR
  refine Ev.step (fun k => by rw [impl_AllComplete.l1]) (ev_pos (by omega) (ev_pos (by omega) ?_))
  rw [wrap_id (x := (i : Int) + 1) (by omega) (by omega)]
  have hf : acc ++ fromN (bitAt m) i (d + 1) = (acc ++ if bitAt m (i : Int) = true then [(i : Int)] else []) ++ fromN (bitAt m) (i + 1) d := by
   rw [List.append_assoc]
   rfl
  rw [hf] at hR
  refine ev_ite (fun e => ev_pos (by omega) ?_) (fun e => ?_)
  ·rw [if_pos (show bitAt m (i : Int) = true from decide_eq_true e)] at hR
   exact ih (i + 1) _ (by omega) (by rw [List.length_append, List.length_singleton]; omega) hR
  ·rw [if_neg (show ¬ bitAt m (i : Int) = true from fun h => e (of_decide_eq_true h)), List.append_nil] at hR
   exact ih (i + 1) acc (by omega) (by omega) hR
theorem allI_l0 (n : Int) (xs : List (List Int)) (hb : 0 ≤ n ∧ n ≤ 10) (hn : xs.length ≤ 1048576) : ∀ (d m : Nat) (T : List (List Int)), m + d = 2 ^ n.toNat → T.length ≤ m → (∀ y ∈ T, y.length ≤ 10) → Ev (fun k => impl_AllComplete.l0 k T ((2 ^ n.toNat : Nat) : Int) (m : Int) n xs) (sortR (T ++ compl n xs m d)) := by
 have hp := pow_le hb
 intro d
 induction d with
 | zero =>
  intro m T h hl hi
  obtain ⟨K, hK⟩ := evPairs T (fun y hy => Nat.le_trans (hi y hy) (by omega))
  refine Ev.step (fun k => by rw [impl_AllComplete.l0]) (ev_neg (by omega) ?_)
  rw [show compl n xs m 0 = [] from rfl, List.append_nil]
  refine Ev.bind (a := sortR T) ⟨K, fun k hk => ?_⟩ (Ev.now _)
  unfold slices_SortFunc_int_int.f
  exact if_pos ⟨rfl, by omega, hK k hk⟩
 | succ d ih =>
  intro m T h hl hi
  have hsl := subset_len hb (m : Int)
  refine Ev.step (fun k => by rw [impl_AllComplete.l0]) (ev_pos (by omega) ?_)
  refine allI_l1 n xs T (m : Int) _ hb _ n.toNat 0 [] (by omega) (by simp) ?_
  rw [List.nil_append, show fromN (bitAt (m : Int)) 0 n.toNat = subsetOf n (m : Int) from rfl]
  have hc : compl n xs m (d + 1) = (if complete n xs (subsetOf n (m : Int)) = true then [subsetOf n (m : Int)] else []) ++ compl n xs (m + 1) d := rfl
  rw [hc, wrap_id (by omega) (by omega)]
  refine Ev.bind (complete_impl n xs _ hn (by omega)) (ev_ite (fun e => ev_pos (by omega) ?_) (fun e => ?_))
  ·rw [if_pos e, ← List.append_assoc]
   refine ih (m + 1) _ (by omega) (by rw [List.length_append, List.length_singleton]; omega) (fun y hy => ?_)
   rcases List.mem_append.1 hy with h3 | h3
   ·exact hi y h3
   ·rw [List.mem_singleton.1 h3]
    exact hsl
  ·rw [if_neg e, List.nil_append]
   exact ih (m + 1) T (by omega) (by omega) hi
theorem all_impl (n : Int) (xs : List (List Int)) (hn : xs.length ≤ 1048576) : Ev (fun k => impl_AllComplete.f k n xs) (allV n xs) := by
 unfold impl_AllComplete.f allV
 refine ev_bind0 rfl (Ev.bind (isGraph_impl n xs hn) (ev_ite (fun e => ?_) (fun e => ?_)))
 ·rw [if_pos e]
  have hb := isGraph_n e
  refine ev_pos hb.1 ?_
  rw [shl_n hb]
  exact allI_l0 n xs hb hn (2 ^ n.toNat) 0 [] (by omega) (Nat.le_refl _) (fun y hy => absurd hy (by simp))
 ·rw [if_neg e]
  exact Ev.now _
theorem allV_facts (n : Int) (xs : List (List Int)) : (allV n xs).length ≤ 1024 ∧ (allV n xs).Nodup ∧ ∀ y ∈ allV n xs, y.length ≤ 10 ∧ y.Pairwise (· < ·) := by
 unfold allV
 by_cases e : isGraph n xs = true
 ·rw [if_pos e]
  have hb := isGraph_n e
  have hp := pow_le hb
  have hl := compl_len n xs (2 ^ n.toNat) 0
  refine ⟨by rw [sortR_len]; omega, (sortR_p _).nodup_iff.2 (compl_nodup n xs hb _ 0 (by omega)), fun y hy => ?_⟩
  obtain ⟨j, _, _, rfl⟩ := compl_mem n xs y _ 0 ((sortR_p _).mem_iff.1 hy)
  exact ⟨subset_len hb _, fromN_asc _ _ _⟩
 ·rw [if_neg e]
  exact ⟨by simp, List.nodup_nil, fun y hy => absurd hy (by simp)⟩
def partB (a b : List Int) : Bool := a.all fun x => decide (x ∈ b)
def keepP (l : List (List Int)) (a : List Int) : Bool := !(l.any fun b => decide (b.length > a.length) && partB a b)
theorem asc_sublist : ∀ (z a : List Int), a.Pairwise (· < ·) → z.Pairwise (· < ·) → (∀ x ∈ a, x ∈ z) → a.Sublist z := by
 intro z
 induction z with
 | nil =>
  intro a _ _ h
  cases a with
  | nil => exact List.Sublist.refl _
  | cons x a => exact absurd (h x List.mem_cons_self) (by simp)
 | cons y z ih =>
  intro a ha hz h
  obtain ⟨z1, z2⟩ := List.pairwise_cons.1 hz
  cases a with
  | nil => exact List.nil_sublist _
  | cons x a =>
   obtain ⟨a1, a2⟩ := List.pairwise_cons.1 ha
   rcases List.mem_cons.1 (h x List.mem_cons_self) with rfl | hx
   ·refine List.Sublist.cons_cons x (ih a a2 z2 (fun t ht => ?_))
    have h1 := a1 t ht
    rcases List.mem_cons.1 (h t (List.mem_cons_of_mem _ ht)) with rfl | h2
    ·omega
    ·exact h2
   ·refine List.Sublist.cons y (ih (x :: a) ha z2 (fun t ht => ?_))
    have hyx := z1 x hx
    rcases List.mem_cons.1 (h t ht) with rfl | h2
    ·rcases List.mem_cons.1 ht with rfl | h3
     ·exact hx
     ·have := a1 t h3
      omega
    ·exact h2
def prefV (n : Int) (xs : List (List Int)) : List (List Int) := (allV n xs).filter (keepP (allV n xs))
theorem prefV_facts (n : Int) (xs : List (List Int)) : (prefV n xs).length ≤ 1024 ∧ ∀ y ∈ prefV n xs, y.length ≤ 10 := by
 obtain ⟨h1, h2, h3⟩ := allV_facts n xs
 unfold prefV
 exact ⟨Nat.le_trans (List.length_filter_le _ _) h1, fun y hy => (h3 y (List.mem_filter.1 hy).1).1⟩
theorem within_l0 (xs ys : List Int) (hn : xs.length ≤ 1048576) (hm : ys.length ≤ 1048576) : ∀ (zs : List Int) (i : Nat), xs.drop i = zs → Ev (fun k => impl_isWithin.l0 k ys xs xs.length (i : Int)) (partB zs ys) := by
 intro zs
 induction zs with
 | nil =>
  intro i h
  have := at_end h
  refine Ev.step (fun k => by rw [impl_isWithin.l0]) ?_
  exact ev_neg (by omega) (Ev.now _)
 | cons z zs ih =>
  intro i h
  obtain ⟨hlt, hz, h2, _⟩ := at_drop h
  refine Ev.step (fun k => by rw [impl_isWithin.l0]) (ev_pos (by omega) (ev_pos (by omega) (ev_pos (by omega) ?_)))
  rw [rd_get hz, wrap_id (by omega) (by omega)]
  unfold partB
  refine Ev.bind (containsInt_ev ys z (by omega)) (ev_ite (fun e => ev_eq (ih (i + 1) h2) ?_) (fun e => ev_eq (Ev.now _) ?_))
  ·rw [List.all_cons, e, Bool.true_and]
   rfl
  ·rw [List.all_cons, show decide (z ∈ ys) = false by simpa using e, Bool.false_and]
theorem within_ev (xs ys : List Int) (hn : xs.length ≤ 1048576) (hm : ys.length ≤ 1048576) : Ev (fun k => impl_isWithin.f k xs ys) (partB xs ys) := by
 unfold impl_isWithin.f
 exact within_l0 xs ys hn hm xs 0 rfl
theorem prefAny_l0 (l : List (List Int)) (a : List Int) (hl : l.length ≤ 1024) (hi : ∀ y ∈ l, y.length ≤ 10) (ha : a.length ≤ 10) : ∀ (zs : List (List Int)) (i : Nat), l.drop i = zs → ∃ r : Int, Ev (fun k => prefAny.l0 k l a (i : Int)) r ∧ (0 ≤ r ↔ (zs.any fun b => decide (b.length > a.length) && partB a b) = true) := by
 intro zs
 induction zs with
 | nil =>
  intro i h
  have := at_end h
  refine ⟨-1, Ev.step (fun k => by rw [prefAny.l0]) (ev_neg (by omega) (Ev.now _)), by simp⟩
 | cons z zs ih =>
  intro i h
  obtain ⟨hlt, hz, h2, _⟩ := at_drop h
  have hr : rd_L2 l (i : Int) = z := getD_at hz
  have hzl := hi z (List.mem_of_getElem? hz)
  obtain ⟨r, hr2, hr3⟩ := ih (i + 1) h2
  by_cases hc : z.length > a.length
  ·by_cases hp : partB a z = true
   ·refine ⟨(i : Int), Ev.step (fun k => by rw [prefAny.l0]) ?_, ?_⟩
    ·rw [hr]
     refine ev_pos (by omega) (ev_pos (by omega) (ev_pos (by omega) (Ev.bind (within_ev a z (by omega) (by omega)) ?_)))
     rw [hp]
     exact ev_pos rfl (Ev.now _)
    ·rw [List.any_cons, hp, decide_eq_true hc]
     simp
   ·refine ⟨r, Ev.step (fun k => by rw [prefAny.l0]) ?_, ?_⟩
    ·rw [hr, wrap_id (x := (i : Int) + 1) (by omega) (by omega)]
     refine ev_pos (by omega) (ev_pos (by omega) (ev_pos (by omega) (Ev.bind (within_ev a z (by omega) (by omega)) (ev_neg hp hr2))))
    ·rw [List.any_cons, show partB a z = false by simpa using hp, Bool.and_false, Bool.false_or]
     exact hr3
  ·refine ⟨r, Ev.step (fun k => by rw [prefAny.l0]) ?_, ?_⟩
   ·rw [hr, wrap_id (x := (i : Int) + 1) (by omega) (by omega)]
    exact ev_pos (by omega) (ev_pos (by omega) (ev_neg (by omega) hr2))
   ·rw [List.any_cons, decide_eq_false hc, Bool.false_and, Bool.false_or]
    exact hr3
theorem prefI_l0 (l : List (List Int)) (hl : l.length ≤ 1024) (hi : ∀ y ∈ l, y.length ≤ 10) : ∀ (zs : List (List Int)) (i : Nat) (acc : List (List Int)), l.drop i = zs → acc.length ≤ i → Ev (fun k => impl_Preferred.l0 k acc l (i : Int)) (acc ++ zs.filter (keepP l)) := by
 intro zs
 induction zs with
 | nil =>
  intro i acc h hacc
  have := at_end h
  exact Ev.step (fun k => by rw [impl_Preferred.l0]) (ev_neg (by omega) (ev_eq (Ev.now _) (by simp)))
 | cons z zs ih =>
  intro i acc h hacc
  obtain ⟨hlt, hz, h2, _⟩ := at_drop h
  have hr : rd_L2 l (i : Int) = z := getD_at hz
  obtain ⟨r, hr2, hr3⟩ := prefAny_l0 l z hl hi (hi z (List.mem_of_getElem? hz)) l 0 rfl
  refine Ev.step (fun k => by rw [impl_Preferred.l0]) (ev_pos (by omega) (ev_pos (by omega) ?_))
  rw [hr, wrap_id (x := (i : Int) + 1) (by omega) (by omega)]
  refine Ev.bind hr2 (ev_ite (fun e => ?_) (fun e => ?_))
  ·have hk : keepP l z = false := by unfold keepP; rw [hr3.1 e]; rfl
   rw [List.filter_cons_of_neg (by rw [hk]; simp)]
   exact ih (i + 1) acc h2 (by omega)
  ·have hk : keepP l z = true := by
    unfold keepP
    rw [show (l.any fun b => decide (b.length > z.length) && partB z b) = false by rw [← Bool.not_eq_true]; exact fun h => e (hr3.2 h)]
    rfl
   rw [List.filter_cons_of_pos hk]
   exact ev_pos (by omega) (ev_eq (ih (i + 1) _ h2 (by rw [List.length_append, List.length_singleton]; omega)) (by simp))
theorem pref_impl (n : Int) (xs : List (List Int)) (hn : xs.length ≤ 1048576) : Ev (fun k => impl_Preferred.f k n xs) (prefV n xs) := by
 unfold impl_Preferred.f prefV
 obtain ⟨h1, h2, h3⟩ := allV_facts n xs
 exact Ev.bind (all_impl n xs hn) (prefI_l0 _ h1 (fun y hy => (h3 y hy).1) _ 0 [] rfl (Nat.le_refl _))

/-- What all rows hold. -/
def inAllV : List (List Int) → List Int
 | [] => []
 | s :: rest => s.filter fun n => rest.all fun t => decide (n ∈ t)
theorem inAllV_len (W : List (List Int)) (h : ∀ y ∈ W, y.length ≤ 10) : (inAllV W).length ≤ 10 := by
 cases W with
 | nil => simp [inAllV]
 | cons s rest =>
  have := h s (by simp)
  have h2 := List.length_filter_le (fun n => rest.all fun t => decide (n ∈ t)) s
  show (s.filter _).length ≤ 10
  omega
theorem inAny_l0 (l : List (List Int)) (n : Int) (hl : l.length ≤ 1024) (hi : ∀ y ∈ l, y.length ≤ 10) : ∀ (zs : List (List Int)) (i : Nat), l.drop i = zs → ∃ r : Int, Ev (fun k => inAny.l0 k l n (i : Int)) r ∧ (0 ≤ r ↔ ¬ (zs.all fun t => decide (n ∈ t)) = true) := by
 intro zs
 induction zs with
 | nil =>
  intro i h
  have := at_end h
  refine ⟨-1, Ev.step (fun k => by rw [inAny.l0]) (ev_neg (by omega) (Ev.now _)), by simp⟩
 | cons z zs ih =>
  intro i h
  obtain ⟨hlt, hz, h2, _⟩ := at_drop h
  have hr : rd_L2 l (i : Int) = z := getD_at hz
  have hzl := hi z (List.mem_of_getElem? hz)
  obtain ⟨r, hr2, hr3⟩ := ih (i + 1) h2
  by_cases hc : n ∈ z
  ·refine ⟨r, Ev.step (fun k => by rw [inAny.l0]) ?_, ?_⟩
   ·rw [hr, wrap_id (x := (i : Int) + 1) (by omega) (by omega)]
    exact ev_pos (by omega) (ev_pos (by omega) (Ev.bind (containsInt_ev z n (by omega)) (ev_pos (by simpa using hc) hr2)))
   ·rw [List.all_cons, decide_eq_true hc, Bool.true_and]
    exact hr3
  ·refine ⟨(i : Int), Ev.step (fun k => by rw [inAny.l0]) ?_, ?_⟩
   ·rw [hr]
    exact ev_pos (by omega) (ev_pos (by omega) (Ev.bind (containsInt_ev z n (by omega)) (ev_neg (by simpa using hc) (Ev.now _))))
   ·rw [List.all_cons, decide_eq_false hc, Bool.false_and]
    simp
theorem inI_l0 (s : List Int) (rest : List (List Int)) (hl : rest.length ≤ 1023) (hi : ∀ y ∈ s :: rest, y.length ≤ 10) : ∀ (us : List Int) (i : Nat) (acc : List Int), s.drop i = us → acc.length ≤ i → Ev (fun k => impl_InAll.l0 k (s :: rest) s acc (i : Int)) (acc ++ us.filter fun n => rest.all fun t => decide (n ∈ t)) := by
 have hsl := hi s (by simp)
 intro us
 induction us with
 | nil =>
  intro i acc h ha
  have := at_end h
  exact Ev.step (fun k => by rw [impl_InAll.l0]) (ev_neg (by omega) (ev_eq (Ev.now _) (by simp)))
 | cons n us ih =>
  intro i acc h ha
  obtain ⟨hlt, hz, h2, _⟩ := at_drop h
  have hns : n ∈ s := List.mem_of_getElem? hz
  obtain ⟨r, hr2, hr3⟩ := inAny_l0 (s :: rest) n (by first | (simp; done) | (simp; omega)) hi (s :: rest) 0 rfl
  rw [List.all_cons, decide_eq_true hns, Bool.true_and] at hr3
  refine Ev.step (fun k => by rw [impl_InAll.l0]) (ev_pos (by omega) (ev_pos (by omega) ?_))
  rw [rd_get hz, wrap_id (x := (i : Int) + 1) (by omega) (by omega)]
  refine Ev.bind hr2 (ev_ite (fun e => ?_) (fun e => ?_))
  ·rw [List.filter_cons_of_neg (p := fun n => rest.all fun t => decide (n ∈ t)) (hr3.1 e)]
   exact ih (i + 1) acc h2 (by omega)
  ·rw [List.filter_cons_of_pos (p := fun n => rest.all fun t => decide (n ∈ t)) (Decidable.of_not_not (fun h => e (hr3.2 h)))]
   exact ev_pos (by omega) (ev_eq (ih (i + 1) _ h2 (by rw [List.length_append, List.length_singleton]; omega)) (by simp))
theorem inAll_impl (W : List (List Int)) (hl : W.length ≤ 1024) (hi : ∀ y ∈ W, y.length ≤ 10) : Ev (fun k => impl_InAll.f k W) (inAllV W) := by
 unfold impl_InAll.f
 cases W with
 | nil => exact ev_pos (by simp) (Ev.now _)
 | cons s rest => exact ev_neg (by first | (simp; done) | (simp; omega)) (inI_l0 s rest (by simp at hl; omega) hi s 0 [] rfl (Nat.le_refl _))

theorem containsL_l0 (xs : List Int) (x : Int) (hn : xs.length ≤ 9223372036854775807) : ∀ (zs : List Int) (i : Nat), xs.drop i = zs → Ev (fun k => laws_contains.l0 k xs x (i : Int)) (decide (x ∈ zs)) := by
 intro zs
 induction zs with
 | nil =>
  intro i h
  have := at_end h
  refine Ev.step (fun k => by rw [laws_contains.l0]) ?_
  exact ev_neg (by omega) (ev_eq (Ev.now _) (by simp))
 | cons z zs ih =>
  intro i h
  obtain ⟨hlt, hz, h2, _⟩ := at_drop h
  refine Ev.step (fun k => by rw [laws_contains.l0]) ?_
  rw [wrap_id (by omega) (by omega), rd_get hz]
  refine ev_pos (by omega) (ev_pos (by omega) (ev_ite (fun e => ev_eq (Ev.now _) (by simp [e])) (fun e => ev_eq (ih (i + 1) h2) ?_)))
  have : x ≠ z := fun h => e h.symm
  simp [this]
theorem containsL_ev (xs : List Int) (x : Int) (hn : xs.length ≤ 9223372036854775807) : Ev (fun k => laws_contains.f k xs x) (decide (x ∈ xs)) := by
 unfold laws_contains.f
 exact containsL_l0 xs x hn xs 0 rfl
theorem mem_att {n : Int} {xs : List (List Int)} {q c : Int} (hg : isGraph n xs = true) : q ∈ attackers n xs c ↔ ∃ r ∈ xs, rd r 1 = c ∧ rd r 0 = q := by
 unfold attackers
 rw [if_pos hg, List.mem_map]
 constructor
 ·rintro ⟨r, hr, e⟩
  obtain ⟨h1, h2⟩ := List.mem_filter.1 hr
  exact ⟨r, h1, of_decide_eq_true h2, e⟩
 ·rintro ⟨r, h1, h2, e⟩
  exact ⟨r, List.mem_filter.2 ⟨h1, decide_eq_true h2⟩, e⟩
theorem mem_hits {n : Int} {xs : List (List Int)} {s : List Int} {c : Int} (hg : isGraph n xs = true) : c ∈ hits n xs s ↔ ∃ q ∈ s, q ∈ attackers n xs c := by
 unfold hits
 rw [if_pos hg, fromN_mem]
 unfold hitB
 rw [List.any_eq_true]
 have hn := isGraph_n hg
 constructor
 ·rintro ⟨_, r, hr, h⟩
  obtain ⟨h1, h2⟩ := of_decide_eq_true h
  exact ⟨_, h2, (mem_att hg).2 ⟨r, hr, h1, rfl⟩⟩
 ·rintro ⟨q, hq, h⟩
  obtain ⟨r, hr, h1, h2⟩ := (mem_att hg).1 h
  have := isGraph_row hg hr
  refine ⟨by omega, r, hr, decide_eq_true ⟨h1, h2 ▸ hq⟩⟩
theorem up_of : ∀ l : List Int, l.Pairwise (· < ·) → upward l = true
 | [], _ => rfl
 | [_], _ => rfl
 | a :: b :: r, h => by
  obtain ⟨h1, h2⟩ := List.pairwise_cons.1 h
  unfold upward
  rw [up_of (b :: r) h2, Bool.and_true]
  exact decide_eq_true (h1 b (by simp))
theorem set_of {n : Int} {xs : List (List Int)} (hg : isGraph n xs = true) (p : Int → Bool) : isSet n xs (fromN p 0 n.toNat) = true := by
 unfold isSet
 have hn := isGraph_n hg
 rw [hg, up_of _ (fromN_asc _ _ _), Bool.and_true, Bool.true_and, List.all_eq_true]
 intro y hy
 have h1 := ((fromN_mem p y _ _).1 hy).1
 unfold inR
 rw [wrap_id (by omega) (by omega)]
 exact decide_eq_true (by omega)
theorem mem_defended {n : Int} {xs : List (List Int)} {s : List Int} (hs : isSet n xs s = true) (c : Int) : c ∈ defended n xs s ↔ (0 ≤ c ∧ c < n) ∧ ∀ o ∈ attackers n xs c, ∃ q ∈ s, q ∈ attackers n xs o := by
 have hg : isGraph n xs = true := by unfold isSet at hs; exact (Bool.and_eq_true_iff.1 hs).1
 have hn := isGraph_n hg
 unfold defended
 rw [if_pos hs, fromN_mem]
 unfold defends
 rw [hs, Bool.true_and, Bool.and_eq_true, List.all_eq_true]
 unfold inR
 rw [decide_eq_true_eq, wrap_id (by omega) (by omega)]
 constructor
 ·rintro ⟨h1, _, h2⟩
  exact ⟨by omega, fun o ho => (mem_hits hg).1 (of_decide_eq_true (h2 o ho))⟩
 ·rintro ⟨h1, h2⟩
  exact ⟨by omega, by omega, fun o ho => decide_eq_true ((mem_hits hg).2 (h2 o ho))⟩
/-- The rounds: what none attacks, what that defends, and so on. -/
def iterD (n : Int) (xs : List (List Int)) : Nat → List Int
 | 0 => []
 | r + 1 => defended n xs (iterD n xs r)
theorem iterD_set {n : Int} {xs : List (List Int)} (hg : isGraph n xs = true) : ∀ r, isSet n xs (iterD n xs r) = true
 | 0 => by unfold isSet iterD; rw [hg]; rfl
 | r + 1 => by
  unfold iterD defended
  rw [if_pos (iterD_set hg r)]
  exact set_of hg _
theorem iterD_mem {n : Int} {xs : List (List Int)} (hg : isGraph n xs = true) (r : Nat) (c : Int) : c ∈ iterD n xs (r + 1) ↔ (0 ≤ c ∧ c < n) ∧ ∀ o ∈ attackers n xs c, ∃ q ∈ iterD n xs r, q ∈ attackers n xs o := mem_defended (iterD_set hg r) c
theorem iterD_step {n : Int} {xs : List (List Int)} (hg : isGraph n xs = true) : ∀ (r : Nat) (c : Int), c ∈ iterD n xs r → c ∈ iterD n xs (r + 1)
 | 0, c, h => absurd h (by simp [iterD])
 | r + 1, c, h => by
  obtain ⟨h1, h2⟩ := (iterD_mem hg r c).1 h
  refine (iterD_mem hg (r + 1) c).2 ⟨h1, fun o ho => ?_⟩
  obtain ⟨q, hq, h3⟩ := h2 o ho
  exact ⟨q, iterD_step hg r q hq, h3⟩
theorem iterD_asc {n : Int} {xs : List (List Int)} : ∀ r, (iterD n xs r).Pairwise (· < ·)
 | 0 => List.Pairwise.nil
 | r + 1 => by
  unfold iterD defended
  split
  ·exact fromN_asc _ _ _
  ·exact List.Pairwise.nil
theorem iterD_len {n : Int} {xs : List (List Int)} : ∀ r, (iterD n xs r).length ≤ 10
 | 0 => by simp [iterD]
 | r + 1 => defended_len n xs _
theorem iterD_grow {n : Int} {xs : List (List Int)} (hg : isGraph n xs = true) (r : Nat) (h : iterD n xs (r + 1) ≠ iterD n xs r) : (iterD n xs r).length + 1 ≤ (iterD n xs (r + 1)).length := by
 have hs := asc_sublist _ _ (iterD_asc r) (iterD_asc (r + 1)) (iterD_step hg r)
 rcases Nat.lt_or_ge (iterD n xs r).length (iterD n xs (r + 1)).length with h1 | h1
 ·exact h1
 ·exact absurd (hs.eq_of_length_le h1).symm h
theorem rdL1_last (xs : List (List Int)) (f : Nat → List Int) (r : Nat) : rd_L2 ((List.range (r + 1)).map f) (r : Int) = f r := by
 exact getD_at (by simp)
theorem rounds_l0 (n : Int) (xs : List (List Int)) (hg : isGraph n xs = true) (hn : xs.length ≤ 1048576) : ∀ (d r : Nat), 11 ≤ d + (iterD n xs r).length → r + d ≤ 20 → ∃ R, iterD n xs (R + 1) = iterD n xs R ∧ R ≤ 20 ∧ Ev (fun k => impl_rounds.l0 k ((List.range (r + 1)).map (iterD n xs)) n xs) ((List.range (R + 1)).map (iterD n xs)) := by
 intro d
 induction d with
 | zero => intro r h; have := iterD_len (n := n) (xs := xs) r; omega
 | succ d ih =>
  intro r h h2
  have hl : ((List.range (r + 1)).map (iterD n xs)).length = r + 1 := by simp
  have hlen := iterD_len (n := n) (xs := xs) r
  have hlen2 := iterD_len (n := n) (xs := xs) (r + 1)
  have hw : wrap64 ((((List.range (r + 1)).map (iterD n xs)).length : Int) - 1) = (r : Int) := by rw [hl, wrap_id (by omega) (by omega)]; omega
  have key : ∀ R', Ev (fun k => (slices_Equal_int_int.f k (iterD n xs (r + 1)) (iterD n xs r)).bind fun t207 => (if t207 = true then (some ((List.range (r + 1)).map (iterD n xs))) else (if ((List.range (r + 1)).map (iterD n xs)).length < 5864062014805 then (impl_rounds.l0 k (((List.range (r + 1)).map (iterD n xs)) ++ [iterD n xs (r + 1)]) n xs) else none))) R' → Ev (fun k => impl_rounds.l0 k ((List.range (r + 1)).map (iterD n xs)) n xs) R' := by
   intro R' hR'
   refine Ev.step (fun k => by rw [impl_rounds.l0]) ?_
   rw [hw]
   refine ev_pos (by omega) (ev_pos (by rw [hl]; omega) ?_)
   rw [rdL1_last xs]
   exact Ev.bind (defended_impl n xs _ hn (by omega)) hR'
  by_cases e : iterD n xs (r + 1) = iterD n xs r
  ·exact ⟨r, e, by omega, key _ (Ev.bind (equalI_ev _ _ (by omega)) (ev_pos (decide_eq_true e) (Ev.now _)))⟩
  ·have hgr := iterD_grow hg r e
   obtain ⟨R, h3, h4, h5⟩ := ih (r + 1) (by omega) (by omega)
   refine ⟨R, h3, h4, key _ (Ev.bind (equalI_ev _ _ (by omega)) (ev_neg (by simpa using e) (ev_pos (by rw [hl]; omega) ?_)))⟩
   rw [List.range_succ (n := r + 1), List.map_append] at h5
   exact h5
theorem grounded_impl (n : Int) (xs : List (List Int)) (hn : xs.length ≤ 1048576) : ∃ G, Ev (fun k => impl_Grounded.f k n xs) G ∧ G.length ≤ 10 ∧ (isGraph n xs = true → ∃ R, iterD n xs (R + 1) = iterD n xs R ∧ G = iterD n xs R) ∧ (isGraph n xs = false → G = []) := by
 cases hg : isGraph n xs with
 | true =>
  obtain ⟨R, h1, h2, h3⟩ := rounds_l0 n xs hg hn 11 0 (by omega) (by omega)
  refine ⟨iterD n xs R, ?_, iterD_len R, fun _ => ⟨R, h1, rfl⟩, fun h => absurd h (by decide)⟩
  unfold impl_Grounded.f
  have hl : ((List.range (R + 1)).map (iterD n xs)).length = R + 1 := by simp
  have hw : wrap64 ((((List.range (R + 1)).map (iterD n xs)).length : Int) - 1) = (R : Int) := by rw [hl, wrap_id (by omega) (by omega)]; omega
  have h4 : Ev (fun k => impl_rounds.f k n xs) ((List.range (R + 1)).map (iterD n xs)) := by
   unfold impl_rounds.f
   refine ev_bind0 rfl (Ev.bind (isGraph_impl n xs hn) (ev_pos hg ?_))
   exact h3
  refine Ev.bind h4 ?_
  rw [hw]
  refine ev_pos (by omega) (ev_pos (by rw [hl]; omega) ?_)
  rw [rdL1_last xs]
  exact Ev.now _
 | false =>
  refine ⟨[], ?_, by simp, fun h => absurd h (by decide), fun _ => rfl⟩
  unfold impl_Grounded.f
  have h4 : Ev (fun k => impl_rounds.f k n xs) [[]] := by
   unfold impl_rounds.f
   exact ev_bind0 rfl (Ev.bind (isGraph_impl n xs hn) (ev_neg (by rw [hg]; decide) (Ev.now _)))
  refine Ev.bind h4 ?_
  rw [show wrap64 ((([[]] : List (List Int)).length : Int) - 1) = 0 from wrap_id (x := 0) (by omega) (by omega)]
  exact ev_pos (by decide) (ev_pos (by decide) (Ev.now _))
theorem addAttack_any (n x y : Int) (S : List (List Int)) (hg : isGraph n S = true) (hn : S.length < 1048576) : ∃ T b, Ev (fun k => spec_AddAttack.f k n S x y) (n, T, b) ∧ isGraph n T = true ∧ T.length ≤ S.length + 1 := by
 have hl : (insR [x, y] S).length = S.length + 1 := by rw [(insR_perm [x, y] S).length_eq, List.length_cons]
 cases h : isGraph n (insR [x, y] S) with
 | true =>
  refine ⟨insR [x, y] S, true, ?_, h, by omega⟩
  unfold spec_AddAttack.f
  refine addS_l0 n x y S hg (by omega) _ ?_ S 0 [] rfl (Nat.le_refl _) rfl
  exact Ev.step (fun k => by rw [spec_AddAttack.j2]) (Ev.bind (isGraph_spec n S (by omega)) (ev_pos hg (Ev.bind (isGraph_spec n (insR [x, y] S) (by omega)) (ev_pos h (Ev.now _)))))
 | false =>
  refine ⟨S, false, ?_, hg, by omega⟩
  unfold spec_AddAttack.f
  refine addS_l0 n x y S hg (by omega) _ ?_ S 0 [] rfl (Nat.le_refl _) rfl
  refine Ev.step (fun k => by rw [spec_AddAttack.j2]) (Ev.bind (isGraph_spec n S (by omega)) (ev_pos hg (Ev.bind (isGraph_spec n (insR [x, y] S) (by omega)) (ev_neg (c := isGraph n (insR [x, y] S) = true) (by rw [h]; decide) ?_))))
  exact Ev.bind (copyG_ev n S (by omega) (fun y hy => by have := (isGraph_row hg hy).1; omega)) (Ev.now _)
theorem set_mem {n : Int} {xs : List (List Int)} {s : List Int} (h : isSet n xs s = true) : isGraph n xs = true ∧ s.Pairwise (· < ·) ∧ ∀ y ∈ s, 0 ≤ y ∧ y < n := by
 unfold isSet at h
 obtain ⟨hg, h2⟩ := Bool.and_eq_true_iff.1 h
 obtain ⟨h3, h4⟩ := Bool.and_eq_true_iff.1 h2
 have hn := isGraph_n hg
 refine ⟨hg, ?_, fun y hy => ?_⟩
 ·have up : ∀ l : List Int, upward l = true → l.Pairwise (· < ·) := by
   intro l
   induction l with
   | nil => exact fun _ => List.Pairwise.nil
   | cons a l ih =>
    intro h
    cases l with
    | nil => exact List.pairwise_singleton _ _
    | cons b l =>
     unfold upward at h
     obtain ⟨h1, h2⟩ := Bool.and_eq_true_iff.1 h
     have h5 := ih h2
     refine List.pairwise_cons.2 ⟨fun y hy => ?_, h5⟩
     have h6 := of_decide_eq_true h1
     rcases List.mem_cons.1 hy with rfl | hy
     ·exact h6
     ·have := (List.pairwise_cons.1 h5).1 y hy
      omega
  exact up s h4
 ·have h5 := List.all_eq_true.1 h3 y hy
  unfold inR at h5
  rw [wrap_id (by omega) (by omega)] at h5
  have := of_decide_eq_true h5
  omega
theorem iterD_below {n : Int} {xs : List (List Int)} (hg : isGraph n xs = true) {s : List Int} (hs : isSet n xs s = true) (hd : defended n xs s = s) : ∀ (r : Nat) (c : Int), c ∈ iterD n xs r → c ∈ s
 | 0, c, h => absurd h (by simp [iterD])
 | r + 1, c, h => by
  obtain ⟨h1, h2⟩ := (iterD_mem hg r c).1 h
  rw [← hd]
  refine (mem_defended hs c).2 ⟨h1, fun o ho => ?_⟩
  obtain ⟨q, hq, h3⟩ := h2 o ho
  exact ⟨q, iterD_below hg hs hd r q hq, h3⟩
theorem iterD_free {n : Int} {xs : List (List Int)} (hg : isGraph n xs = true) : ∀ (r : Nat) (a b : Int), a ∈ iterD n xs r → b ∈ iterD n xs r → a ∉ attackers n xs b
 | 0, a, b, h, _ => absurd h (by simp [iterD])
 | r + 1, a, b, ha, hb => by
  intro hab
  obtain ⟨c, hc, hca⟩ := ((iterD_mem hg r b).1 hb).2 a hab
  obtain ⟨d, hd, hdc⟩ := ((iterD_mem hg r a).1 ha).2 c hca
  exact iterD_free hg r d c hd hc hdc
theorem mask_of (p : Nat → Bool) : ∀ d : Nat, ∃ m, m < 2 ^ d ∧ ∀ i, i < d → m.testBit i = p i := by
 intro d
 induction d with
 | zero => exact ⟨0, by decide, fun i h => absurd h (Nat.not_lt_zero i)⟩
 | succ d ih =>
  obtain ⟨m, h1, h2⟩ := ih
  cases hp : p d with
  | false =>
   refine ⟨m, Nat.lt_of_lt_of_le h1 (Nat.pow_le_pow_right (by decide) (by omega)), fun i hi => ?_⟩
   rcases Nat.lt_or_ge i d with h3 | h3
   ·exact h2 i h3
   ·have : i = d := by omega
    rw [this, hp]
    exact Nat.testBit_lt_two_pow h1
  | true =>
   refine ⟨2 ^ d + m, by rw [Nat.pow_succ]; omega, fun i hi => ?_⟩
   rcases Nat.lt_or_ge i d with h3 | h3
   ·rw [Nat.testBit_two_pow_add_gt h3]
    exact h2 i h3
   ·have : i = d := by omega
    rw [this, hp, Nat.testBit_two_pow_add_eq, Nat.testBit_lt_two_pow h1]
    rfl
theorem set_subset {n : Int} {xs : List (List Int)} {s : List Int} (h : isSet n xs s = true) : ∃ j : Nat, j < 2 ^ n.toNat ∧ s = subsetOf n (j : Int) := by
 obtain ⟨hg, hp, hm⟩ := set_mem h
 have hn := isGraph_n hg
 have hpw := pow_le hn
 obtain ⟨j, hj, hb⟩ := mask_of (fun i => decide ((i : Int) ∈ s)) n.toNat
 refine ⟨j, hj, asc_same _ _ hp (fromN_asc _ _ _) (fun y => ?_)⟩
 unfold subsetOf
 rw [fromN_mem]
 have key : ∀ y : Int, 0 ≤ y → y < n → (bitAt (j : Int) y = true ↔ y ∈ s) := by
  intro y h0 h1
  obtain ⟨i, rfl⟩ : ∃ i : Nat, y = (i : Int) := ⟨y.toNat, by omega⟩
  rw [bitAt_eq j i (by omega) (by omega), hb i (by omega), decide_eq_true_eq]
 constructor
 ·intro hy
  have := hm y hy
  exact ⟨by omega, (key y this.1 this.2).2 hy⟩
 ·rintro ⟨h1, h2⟩
  exact (key y (by omega) (by omega)).1 h2
theorem compl_in (n : Int) (xs : List (List Int)) : ∀ d m j : Nat, m ≤ j → j < m + d → complete n xs (subsetOf n (j : Int)) = true → subsetOf n (j : Int) ∈ compl n xs m d := by
 intro d
 induction d with
 | zero => intro m j h1 h2; omega
 | succ d ih =>
  intro m j h1 h2 h3
  unfold compl
  rcases Nat.lt_or_ge m j with h4 | h4
  ·exact List.mem_append_right _ (ih (m + 1) j (by omega) (by omega) h3)
  ·have : j = m := by omega
   subst this
   rw [if_pos h3]
   exact List.mem_append_left _ (by simp)
theorem compl_whole (n : Int) (xs : List (List Int)) (y : List Int) : ∀ d m : Nat, y ∈ compl n xs m d → complete n xs y = true := by
 intro d
 induction d with
 | zero => exact fun m h => absurd h (by simp [compl])
 | succ d ih =>
  intro m h
  unfold compl at h
  rcases List.mem_append.1 h with h | h
  ·split at h
   ·rename_i e
    rw [List.mem_singleton.1 h]
    exact e
   ·simp at h
  ·exact ih (m + 1) h
theorem allV_mem {n : Int} {xs : List (List Int)} (hg : isGraph n xs = true) (s : List Int) : s ∈ allV n xs ↔ complete n xs s = true := by
 unfold allV
 rw [if_pos hg, (sortR_p _).mem_iff]
 constructor
 ·exact compl_whole n xs s _ 0
 ·intro h
  have h2 := h
  unfold complete freeS at h2
  obtain ⟨j, hj, rfl⟩ := set_subset (Bool.and_eq_true_iff.1 (Bool.and_eq_true_iff.1 h2).1).1
  exact compl_in n xs _ 0 j (by omega) (by omega) h
theorem complete_iff {n : Int} {xs : List (List Int)} {s : List Int} : complete n xs s = true ↔ isSet n xs s = true ∧ (∀ a ∈ s, ∀ b ∈ s, a ∉ attackers n xs b) ∧ defended n xs s = s := by
 unfold complete freeS
 rw [Bool.and_eq_true, Bool.and_eq_true, decide_eq_true_eq, List.all_eq_true]
 constructor
 ·rintro ⟨⟨h1, h2⟩, h3⟩
  have hg := (set_mem h1).1
  refine ⟨h1, fun a ha b hb hab => ?_, h3⟩
  have := h2 b ((mem_hits hg).2 ⟨a, ha, hab⟩)
  simp [hb] at this
 ·rintro ⟨h1, h2, h3⟩
  have hg := (set_mem h1).1
  refine ⟨⟨h1, fun b hb => ?_⟩, h3⟩
  obtain ⟨a, ha, hab⟩ := (mem_hits hg).1 hb
  have : b ∉ s := fun h => h2 a ha b h hab
  simp [this]
theorem grounded_complete {n : Int} {xs : List (List Int)} (hg : isGraph n xs = true) {R : Nat} (hR : iterD n xs (R + 1) = iterD n xs R) : complete n xs (iterD n xs R) = true :=
 complete_iff.2 ⟨iterD_set hg R, fun a ha b hb => iterD_free hg R a b ha hb, hR⟩
theorem grounded_least {n : Int} {xs : List (List Int)} {s : List Int} (h : complete n xs s = true) (R : Nat) : ∀ c ∈ iterD n xs R, c ∈ s := by
 obtain ⟨h1, _, h3⟩ := complete_iff.1 h
 exact fun c hc => iterD_below (set_mem h1).1 h1 h3 R c hc
theorem inAllV_mem (W : List (List Int)) (c : Int) : c ∈ inAllV W ↔ W ≠ [] ∧ ∀ s ∈ W, c ∈ s := by
 cases W with
 | nil => simp [inAllV]
 | cons s rest => simp [inAllV]
theorem all_nonempty {n : Int} {xs : List (List Int)} (hg : isGraph n xs = true) {R : Nat} (hR : iterD n xs (R + 1) = iterD n xs R) : iterD n xs R ∈ allV n xs := (allV_mem hg _).2 (grounded_complete hg hR)
theorem inAll_grounded {n : Int} {xs : List (List Int)} (hg : isGraph n xs = true) {R : Nat} (hR : iterD n xs (R + 1) = iterD n xs R) : inAllV (allV n xs) = iterD n xs R := by
 have hin := all_nonempty hg hR
 obtain ⟨_, _, hf⟩ := allV_facts n xs
 have hasc : (inAllV (allV n xs)).Pairwise (· < ·) := by
  cases hA : allV n xs with
  | nil => exact List.Pairwise.nil
  | cons s rest => exact ((hf s (by rw [hA]; simp)).2).filter _
 refine asc_same _ _ hasc (iterD_asc R) (fun c => ?_)
 rw [inAllV_mem]
 constructor
 ·rintro ⟨_, h⟩
  exact h _ hin
 ·exact fun h => ⟨List.ne_nil_of_mem hin, fun s hs => grounded_least ((allV_mem hg s).1 hs) R c h⟩
theorem longest_of : ∀ l : List (List Int), l ≠ [] → ∃ a ∈ l, ∀ b ∈ l, b.length ≤ a.length := by
 intro l
 induction l with
 | nil => exact fun h => absurd rfl h
 | cons x l ih =>
  intro _
  by_cases e : l = []
  ·exact ⟨x, by simp, fun b hb => by rw [e] at hb; rw [List.mem_singleton.1 hb]; exact Nat.le_refl _⟩
  ·obtain ⟨a, ha, hm⟩ := ih e
   rcases Nat.lt_or_ge a.length x.length with h | h
   ·refine ⟨x, by simp, fun b hb => ?_⟩
    rcases List.mem_cons.1 hb with rfl | hb
    ·exact Nat.le_refl _
    ·have := hm b hb
     omega
   ·refine ⟨a, List.mem_cons_of_mem _ ha, fun b hb => ?_⟩
    rcases List.mem_cons.1 hb with rfl | hb
    ·exact h
    ·exact hm b hb
theorem pref_nonempty {n : Int} {xs : List (List Int)} (h : allV n xs ≠ []) : prefV n xs ≠ [] := by
 obtain ⟨a, ha, hm⟩ := longest_of _ h
 refine List.ne_nil_of_mem (a := a) (List.mem_filter.2 ⟨ha, ?_⟩)
 unfold keepP
 rw [Bool.not_eq_true', List.any_eq_false]
 intro b hb
 have := hm b hb
 have e : decide (b.length > a.length) = false := decide_eq_false (by omega)
 rw [e]
 simp
theorem pref_graph {n : Int} {xs : List (List Int)} (hn : xs.length ≤ 1048576) : isGraph n xs = decide ((prefV n xs).length > 0) := by
 cases hg : isGraph n xs with
 | true =>
  obtain ⟨R, h1, _⟩ : ∃ R, iterD n xs (R + 1) = iterD n xs R ∧ True := by
   obtain ⟨R, h1, _, _⟩ := rounds_l0 n xs hg hn 11 0 (by omega) (by omega)
   exact ⟨R, h1, trivial⟩
  have := pref_nonempty (List.ne_nil_of_mem (all_nonempty hg h1))
  exact (decide_eq_true (List.length_pos_iff.2 this)).symm
 | false =>
  have : prefV n xs = [] := by
   unfold prefV allV
   rw [if_neg (by rw [hg]; decide)]
   rfl
  rw [this]
  rfl
def stable (n : Int) (xs : List (List Int)) (s : List Int) : Bool := freeS n xs s && (List.range n.toNat).all fun i => decide ((i : Int) ∈ s) || decide ((i : Int) ∈ hits n xs s)
theorem stable_l0 (n : Int) (hb : 0 ≤ n ∧ n ≤ 10) (s h : List Int) (hs : s.length ≤ 1024) (hh : h.length ≤ 1024) : ∀ (d i : Nat), i + d = n.toNat → Ev (fun k => impl_IsStable.l0 k s h n (i : Int)) ((List.range' i d).all fun i => decide ((i : Int) ∈ s) || decide ((i : Int) ∈ h)) := by
 intro d
 induction d with
 | zero =>
  intro i hi
  exact Ev.step (fun k => by rw [impl_IsStable.l0]) (ev_neg (by omega) (ev_eq (Ev.now _) (by simp)))
 | succ d ih =>
  intro i hi
  have hnext := ih (i + 1) (by omega)
  refine Ev.step (fun k => by rw [impl_IsStable.l0]) (ev_pos (by omega) (Ev.bind (containsInt_ev s (i : Int) (by omega)) ?_))
  rw [wrap_id (by omega) (by omega), show ((i : Int) + 1) = ((i + 1 : Nat) : Int) by omega, List.range'_succ, List.all_cons]
  refine ev_ite (fun e => ?_) (fun e => Ev.bind (containsInt_ev h (i : Int) (by omega)) (ev_ite (fun e2 => ?_) (fun e2 => ?_)))
  ·rw [e, Bool.true_or, Bool.true_and]
   exact hnext
  ·rw [e2, Bool.or_true, Bool.true_and]
   exact hnext
  ·refine ev_eq (Ev.now _) ?_
   simp at e e2
   simp [e, e2]
theorem stable_ev (n : Int) (xs : List (List Int)) (s : List Int) (hn : xs.length ≤ 1048576) (hs : s.length ≤ 1024) : Ev (fun k => impl_IsStable.f k n xs s) (stable n xs s) := by
 unfold impl_IsStable.f stable
 have hl := hits_len n xs s
 refine Ev.bind (free_impl n xs s hn hs) (ev_ite (fun e => ?_) (fun e => ?_))
 ·have hb : 0 ≤ n ∧ n ≤ 10 := by
   unfold freeS at e
   exact isSet_n (Bool.and_eq_true_iff.1 e).1
  rw [e, Bool.true_and, List.range_eq_range']
  exact Ev.bind (hits_impl n xs s hn hs) (stable_l0 n hb s _ hs (by omega) n.toNat 0 (by omega))
 ·rw [show freeS n xs s = false by simpa using e, Bool.false_and]
  exact Ev.now _
theorem stable_pref {n : Int} {xs : List (List Int)} (hg : isGraph n xs = true) {s : List Int} (hc : s ∈ allV n xs) (h : stable n xs s = true) : s ∈ prefV n xs := by
 refine List.mem_filter.2 ⟨hc, ?_⟩
 unfold keepP
 rw [Bool.not_eq_true', List.any_eq_false]
 intro t ht hh
 rw [Bool.and_eq_true, decide_eq_true_eq] at hh
 obtain ⟨h1, h2⟩ := hh
 obtain ⟨t1, t2, _⟩ := complete_iff.1 ((allV_mem hg t).1 ht)
 obtain ⟨s1, _, _⟩ := complete_iff.1 ((allV_mem hg s).1 hc)
 obtain ⟨_, tp, tm⟩ := set_mem t1
 obtain ⟨_, sp, _⟩ := set_mem s1
 have hst : ∀ x ∈ s, x ∈ t := fun x hx => of_decide_eq_true (List.all_eq_true.1 h2 x hx)
 have hts : ∀ x ∈ t, x ∈ s := by
  intro x hx
  have hb := tm x hx
  unfold stable at h
  have h3 := List.all_eq_true.1 (Bool.and_eq_true_iff.1 h).2 x.toNat (List.mem_range.2 (by omega))
  rw [show ((x.toNat : Nat) : Int) = x by omega, Bool.or_eq_true, decide_eq_true_eq, decide_eq_true_eq] at h3
  rcases h3 with h3 | h3
  ·exact h3
  ·obtain ⟨q, hq, hqx⟩ := (mem_hits hg).1 h3
   exact absurd hqx (t2 q (hst q hq) x hx)
 have := asc_same s t sp tp (fun y => ⟨hst y, hts y⟩)
 rw [this] at h1
 omega
theorem stables_l0 (n : Int) (xs : List (List Int)) (hn : xs.length ≤ 1048576) (l : List (List Int)) (hl : l.length ≤ 1024) (hi : ∀ y ∈ l, y.length ≤ 10) : ∀ (zs : List (List Int)) (i : Nat) (acc : List (List Int)), l.drop i = zs → acc.length ≤ i → Ev (fun k => impl_StableSets.l0 k acc l l.length (i : Int) n xs) (acc ++ zs.filter (stable n xs)) := by
 intro zs
 induction zs with
 | nil =>
  intro i acc h ha
  have := at_end h
  exact Ev.step (fun k => by rw [impl_StableSets.l0]) (ev_neg (by omega) (ev_eq (Ev.now _) (by simp)))
 | cons z zs ih =>
  intro i acc h ha
  obtain ⟨hlt, hz, h2, _⟩ := at_drop h
  have hr : rd_L2 l (i : Int) = z := getD_at hz
  have hzl := hi z (List.mem_of_getElem? hz)
  refine Ev.step (fun k => by rw [impl_StableSets.l0]) (ev_pos (by omega) (ev_pos (by omega) (ev_pos (by omega) ?_)))
  rw [hr, wrap_id (x := (i : Int) + 1) (by omega) (by omega)]
  refine Ev.bind (stable_ev n xs z hn (by omega)) (ev_ite (fun e => ?_) (fun e => ?_))
  ·rw [List.filter_cons_of_pos (p := stable n xs) e]
   exact ev_pos (by omega) (ev_eq (ih (i + 1) _ h2 (by rw [List.length_append, List.length_singleton]; omega)) (by simp))
  ·rw [List.filter_cons_of_neg (p := stable n xs) e]
   exact ih (i + 1) acc h2 (by omega)
theorem stables_ev (n : Int) (xs : List (List Int)) (hn : xs.length ≤ 1048576) : Ev (fun k => impl_StableSets.f k n xs) ((allV n xs).filter (stable n xs)) := by
 unfold impl_StableSets.f
 obtain ⟨h1, _, h3⟩ := allV_facts n xs
 exact Ev.bind (all_impl n xs hn) (stables_l0 n xs hn _ h1 (fun y hy => (h3 y hy).1) _ 0 [] rfl (Nat.le_refl _))
theorem inCred_l0 (l : List (List Int)) (n : Int) (hl : l.length ≤ 1024) (hi : ∀ y ∈ l, y.length ≤ 10) : ∀ (zs : List (List Int)) (i : Nat), l.drop i = zs → ∃ r : Int, Ev (fun k => inCred.l0 k l n (i : Int)) r ∧ (0 ≤ r ↔ ∃ t ∈ zs, n ∈ t) := by
 intro zs
 induction zs with
 | nil =>
  intro i h
  have := at_end h
  exact ⟨-1, Ev.step (fun k => by rw [inCred.l0]) (ev_neg (by omega) (Ev.now _)), by simp⟩
 | cons z zs ih =>
  intro i h
  obtain ⟨hlt, hz, h2, _⟩ := at_drop h
  have hr : rd_L2 l (i : Int) = z := getD_at hz
  have hzl := hi z (List.mem_of_getElem? hz)
  obtain ⟨r, h3, h4⟩ := ih (i + 1) h2
  have go : ∀ R, Ev (fun k => if decide (n ∈ z) = true then some (i : Int) else inCred.l0 k l n ((i : Int) + 1)) R → Ev (fun k => inCred.l0 k l n (i : Int)) R := by
   intro R hR
   refine Ev.step (fun k => by rw [inCred.l0]) (ev_pos (by omega) (ev_pos (by omega) ?_))
   rw [hr, wrap_id (x := (i : Int) + 1) (by omega) (by omega)]
   exact Ev.bind (containsInt_ev z n (by omega)) hR
  by_cases e : n ∈ z
  ·exact ⟨i, go _ (ev_pos (decide_eq_true e) (Ev.now _)), by simp [e]⟩
  ·exact ⟨r, go _ (ev_neg (by simpa using e) h3), by rw [h4]; simp [e]⟩
theorem cred_ev (n : Int) (xs : List (List Int)) (c : Int) (hn : xs.length ≤ 1048576) : ∃ b, Ev (fun k => impl_IsCredible.f k n xs c) b ∧ (b = true ↔ ∃ t ∈ prefV n xs, c ∈ t) := by
 obtain ⟨h1, h2⟩ := prefV_facts n xs
 obtain ⟨r, h3, h4⟩ := inCred_l0 (prefV n xs) c h1 h2 _ 0 rfl
 exact ⟨_, Ev.bind (pref_impl n xs hn) (Ev.bind h3 (Ev.now _)), by rw [decide_eq_true_eq, h4, List.drop_zero]⟩
theorem certain_val (n : Int) (xs : List (List Int)) (c : Int) (hn : xs.length ≤ 1048576) : Ev (fun k => impl_IsCertain.f k n xs c) (decide (c ∈ inAllV (prefV n xs))) := by
 obtain ⟨h1, h2⟩ := prefV_facts n xs
 have h3 := inAllV_len _ h2
 exact Ev.bind (pref_impl n xs hn) (Ev.bind (inAll_impl _ h1 h2) (Ev.bind (containsInt_ev _ c (by omega)) (Ev.now _)))
theorem l4Draw_l0 (b : List Int) (hb : b.length ≤ 1048576) (n : Int) (h1 : 1 ≤ n) : ∀ (d : Nat) (S : List (List Int)) (i h : Int), isGraph n S = true → Cur b i → S.length + d ≤ 1000 → ∃ T i2 h2, Ev (fun k => spec_l4Draw.l0 k (d : Int) b i h n S) (n, T, i2, h2) ∧ T.length ≤ S.length + d ∧ Cur b i2 := by
 intro d
 induction d with
 | zero =>
  intro S i h hg hc hl
  exact ⟨_, _, _, Ev.step (fun k => by rw [spec_l4Draw.l0]) (ev_neg (by omega) (Ev.now _)), Nat.le_refl _, hc⟩
 | succ d ih =>
  intro S i h hg hc hl
  obtain ⟨x, i2, h2, e2, _, _, _, hc2⟩ := l1Below_ok b i h n hc hb
  obtain ⟨y, i3, h3, e3, _, _, _, hc3⟩ := l1Below_ok b i2 h2 n hc2 hb
  obtain ⟨T, a, eA, hT, hlT⟩ := addAttack_any n x y S hg (by omega)
  obtain ⟨U, i4, h4, e4, hU, hc4⟩ := ih T i3 h3 hT hc3 (by omega)
  refine ⟨U, i4, h4, Ev.step (fun k => by rw [spec_l4Draw.l0]) (ev_pos (by omega) (ev_bind0 e2 (ev_bind0 e3 (Ev.bind eA ?_)))), by omega, hc4⟩
  rw [wrap_id (by omega) (by omega), show ((d + 1 : Nat) : Int) - 1 = (d : Int) by omega]
  exact e4
theorem l4Any_ok (b : List Int) (hb : b.length ≤ 1048576) (i h : Int) (hc : Cur b i) : ∃ m T i2 h2, Ev (fun k => spec_l4Any.f k b i h) (m, T, i2, h2) ∧ T.length ≤ 100 := by
 obtain ⟨x, i2, h2, e2, hx0, hx1, _, hc2⟩ := l1Below_ok b i h 6 hc hb
 obtain ⟨y, i3, h3, e3, hy0, hy1, _, hc3⟩ := l1Below_ok b i2 h2 10 hc2 hb
 have hx := hx1 (by decide)
 have hy := hy1 (by decide)
 have hg : isGraph (1 + x) [] = true := by
  unfold isGraph
  rw [decide_eq_true (by omega)]
  rfl
 obtain ⟨T, i4, h4, e4, hT, hc4⟩ := l4Draw_l0 b hb (1 + x) (by omega) y.toNat [] i3 h3 hg hc3 (by first | (simp; done) | (simp; omega))
 have hT2 : T.length ≤ 10 := by simp at hT; omega
 have eD : Ev (fun k => spec_l4Draw.f k b i h) (1 + x, T, i4, h4) := by
  unfold spec_l4Draw.f
  refine ev_bind0 e2 (ev_bind0 e3 ?_)
  dsimp only
  rw [wrap_id (x := 1 + x) (by omega) (by omega)]
  rw [show ((y.toNat : Nat) : Int) = y by omega] at e4
  exact e4
 obtain ⟨z, i5, h5, e5, _, _, _, hc5⟩ := l1Below_ok b i4 h4 14 hc4 hb
 have go : ∀ R, Ev (fun k => (if z = 0 then ((spec_l4Raw.f b i5 h5).bind fun bt265 => (some (bt265.1, T, bt265.2.1, bt265.2.2))) else (if z = 1 then (if T.length < 5864062014805 then (some (1 + x, (T ++ [(([0] : List Int))]), i5, h5)) else (none)) else (if z = 2 then ((spec_l1Below.f b i5 h5 7).bind fun bt274 => ((spec_l1Below.f b bt274.2.1 bt274.2.2 7).bind fun bt277 => (if T.length < 5864062014805 then (some (1 + x, (T ++ [(([bt274.1, bt277.1] : List Int))]), bt277.2.1, bt277.2.2)) else (none)))) else (some (1 + x, T, i5, h5)))) : Option (Int × List (List Int) × Int × Int))) R → Ev (fun k => spec_l4Any.f k b i h) R := by
  intro R hR
  exact Ev.bind eD (ev_bind0 e5 hR)
 by_cases z0 : z = 0
 ·obtain ⟨r, i6, h6, e6, _⟩ := l4Raw_ok b i5 h5 hc5 hb
  exact ⟨_, _, _, _, go _ (ev_pos z0 (ev_bind0 e6 (Ev.now _))), by omega⟩
 ·by_cases z1 : z = 1
  ·exact ⟨_, _, _, _, go _ (ev_neg z0 (ev_pos z1 (ev_pos (by omega) (Ev.now _)))), by rw [List.length_append, List.length_singleton]; omega⟩
  ·by_cases z2 : z = 2
   ·obtain ⟨p, i6, h6, e6, _, _, _, hc6⟩ := l1Below_ok b i5 h5 7 hc5 hb
    obtain ⟨q, i7, h7, e7, _⟩ := l1Below_ok b i6 h6 7 hc6 hb
    exact ⟨_, _, _, _, go _ (ev_neg z0 (ev_neg z1 (ev_pos z2 (ev_bind0 e6 (ev_bind0 e7 (ev_pos (by omega) (Ev.now _))))))), by rw [List.length_append, List.length_singleton]; omega⟩
   ·exact ⟨_, _, _, _, go _ (ev_neg z0 (ev_neg z1 (ev_neg z2 (Ev.now _)))), by omega⟩
theorem drawPref_ok (b : List Int) (hb : b.length ≤ 1048576) : ∃ n xs, Ev (fun k => spec_DrawPreferred.f k b) (n, xs) ∧ xs.length ≤ 100 := by
 obtain ⟨h1, e1, hc1⟩ := l1New_ok b hb
 obtain ⟨m, T, i2, h2, e2, hT⟩ := l4Any_ok b hb 0 h1 hc1
 exact ⟨m, T, Ev.bind (Ev.bind e1 (Ev.bind e2 (Ev.now _))) (Ev.now _), hT⟩
theorem withinL_l0 (xs ys : List Int) (hn : xs.length ≤ 1048576) (hm : ys.length ≤ 1048576) : ∀ (zs : List Int) (i : Nat), xs.drop i = zs → (∀ z ∈ zs, z ∈ ys) → Ev (fun k => laws_within.l0 k xs ys (i : Int)) true := by
 intro zs
 induction zs with
 | nil =>
  intro i h _
  have := at_end h
  exact Ev.step (fun k => by rw [laws_within.l0]) (ev_neg (by omega) (Ev.now _))
 | cons z zs ih =>
  intro i h hz2
  obtain ⟨hlt, hz, h2, _⟩ := at_drop h
  refine Ev.step (fun k => by rw [laws_within.l0]) (ev_pos (by omega) (ev_pos (by omega) ?_))
  rw [rd_get hz, wrap_id (x := (i : Int) + 1) (by omega) (by omega)]
  exact Ev.bind (containsL_ev ys z (by omega)) (ev_pos (decide_eq_true (hz2 z (by simp))) (ih (i + 1) h2 (fun y hy => hz2 y (List.mem_cons_of_mem _ hy))))
theorem sameInts_l0 (xs ys : List Int) (hn : xs.length ≤ 1048576) (hl : xs.length = ys.length) : ∀ (zs us : List Int) (i : Nat), xs.drop i = zs → ys.drop i = us → Ev (fun k => laws_sameInts.l0 k xs ys (i : Int)) (decide (zs = us)) := by
 intro zs
 induction zs with
 | nil =>
  intro us i h hu
  have := at_end h
  have hu2 : us = [] := by rw [← hu]; exact List.drop_eq_nil_of_le (by omega)
  exact Ev.step (fun k => by rw [laws_sameInts.l0]) (ev_neg (by omega) (ev_eq (Ev.now _) (by rw [hu2]; rfl)))
 | cons z zs ih =>
  intro us i h hu
  obtain ⟨hlt, hz, h2, _⟩ := at_drop h
  cases us with
  | nil => have := at_end hu; omega
  | cons u us =>
   obtain ⟨hlt2, hz2, h3, _⟩ := at_drop hu
   refine Ev.step (fun k => by rw [laws_sameInts.l0]) (ev_pos (by omega) (ev_pos (by omega) (ev_pos (by omega) ?_)))
   rw [rd_get hz, rd_get hz2, wrap_id (by omega) (by omega)]
   refine ev_ite (fun e => ?_) (fun e => ev_eq (Ev.now _) (by simp [e]))
   subst e
   exact ev_eq (ih us (i + 1) h2 h3) (by simp)
theorem sameInts_ev (xs ys : List Int) (hn : xs.length ≤ 1048576) : Ev (fun k => laws_sameInts.f k xs ys) (decide (xs = ys)) := by
 unfold laws_sameInts.f
 refine ev_ite (fun e => sameInts_l0 xs ys hn (by omega) xs ys 0 rfl rfl) (fun e => ev_eq (Ev.now _) (decide_eq_false (fun h => e (by rw [h]))).symm)
theorem FnPositions_l3 (n : Int) (xs : List (List Int)) (hn : xs.length ≤ 1048576) : ∀ (d i : Nat), (isGraph n xs = true → (i : Int) + d = n) → Ev (fun k => laws_FnPositions.l3 k (i : Int) n xs) true := by
 have stop : ∀ i : Nat, Ev (fun k => laws_FnPositions.j6 k (i : Int) false n xs) true := fun i => Ev.step (fun k => by rw [laws_FnPositions.j6]) (ev_neg Bool.false_ne_true (Ev.now _))
 cases hg : isGraph n xs with
 | false =>
  intro d i _
  refine Ev.step (fun k => by rw [laws_FnPositions.l3]) (ev_ite (fun _ => Ev.bind (isGraph_impl n xs hn) ?_) (fun _ => stop i))
  rw [hg]
  exact stop i
 | true =>
  obtain ⟨G, eG, hGl, hG1, _⟩ := grounded_impl n xs hn
  obtain ⟨R, hR, rfl⟩ := hG1 hg
  have hpre : ∀ s ∈ prefV n xs, ∀ c ∈ iterD n xs R, c ∈ s := fun s hs => grounded_least ((allV_mem hg s).1 (List.mem_filter.1 hs).1) R
  have hne := pref_nonempty (List.ne_nil_of_mem (all_nonempty hg hR))
  intro d
  induction d with
  | zero =>
   intro i hi
   have := hi rfl
   exact Ev.step (fun k => by rw [laws_FnPositions.l3]) (ev_neg (by omega) (stop i))
  | succ d ih =>
   intro i hi
   have hi2 := hi rfl
   have hnn := isGraph_n hg
   have hnext := ih (i + 1) (fun _ => by omega)
   have hcert := certain_val n xs (i : Int) hn
   obtain ⟨b, eB, hB⟩ := cred_ev n xs (i : Int) hn
   have hcb : (i : Int) ∈ inAllV (prefV n xs) → b = true := by
    intro h
    obtain ⟨_, h2⟩ := (inAllV_mem _ _).1 h
    obtain ⟨t, ht⟩ := List.exists_mem_of_ne_nil _ hne
    exact hB.2 ⟨t, ht, h2 t ht⟩
   refine Ev.step (fun k => by rw [laws_FnPositions.l3]) (ev_pos (by omega) (Ev.bind (isGraph_impl n xs hn) ?_))
   rw [hg]
   refine Ev.step (fun k => by rw [laws_FnPositions.j6]) (ev_pos rfl (Ev.bind eG (Ev.bind (containsL_ev (iterD n xs R) (i : Int) (by omega)) ?_)))
   rw [wrap_id (x := (i : Int) + 1) (by omega) (by omega), show ((i : Int) + 1) = ((i + 1 : Nat) : Int) by omega]
   have rest : Ev (fun k => if decide ((i : Int) ∈ inAllV (prefV n xs)) = true then ((impl_IsCredible.f k n xs (i : Int)).bind fun t649 => (if t649 = true then (laws_FnPositions.l3 k ((i + 1 : Nat) : Int) n xs) else (some false))) else (laws_FnPositions.l3 k ((i + 1 : Nat) : Int) n xs)) true :=
    ev_ite (fun e => Ev.bind eB (ev_pos (hcb (of_decide_eq_true e)) hnext)) (fun _ => hnext)
   refine ev_ite (fun e => Ev.bind hcert (ev_pos (decide_eq_true ?_) (Ev.bind hcert rest))) (fun _ => Ev.bind hcert rest)
   exact (inAllV_mem _ _).2 ⟨hne, fun s hs => hpre s hs _ (of_decide_eq_true e)⟩
theorem FnPositions_l2 (n : Int) (xs p st : List (List Int)) (hp : p.length ≤ 1024) (hi : ∀ y ∈ st, y.length ≤ 10) (hst : st.length ≤ 1024) (i : Nat) (z : List Int) (hz : st[i]? = some z) (h1 : Ev (fun k => laws_FnPositions.l1 k p st ((i + 1 : Nat) : Int) n xs) true) : ∀ (zs : List (List Int)) (j : Nat) (f : Bool), p.drop j = zs → (f = true ∨ z ∈ zs) → Ev (fun k => laws_FnPositions.l2 k p st (i : Int) f (j : Int) n xs) true := by
 have hlt0 : i < st.length := (List.getElem?_eq_some_iff.1 hz).1
 have hzl := hi z (List.mem_of_getElem? hz)
 intro zs
 induction zs with
 | nil =>
  intro j f h hf
  have := at_end h
  have hf : f = true := by simpa using hf
  refine Ev.step (fun k => by rw [laws_FnPositions.l2]) (ev_neg (by omega) (ev_pos hf ?_))
  rw [wrap_id (by omega) (by omega), show ((i : Int) + 1) = ((i + 1 : Nat) : Int) by omega]
  exact h1
 | cons y zs ih =>
  intro j f h hf
  obtain ⟨hlt, hy, h2, _⟩ := at_drop h
  refine Ev.step (fun k => by rw [laws_FnPositions.l2]) (ev_pos (by omega) ?_)
  rw [wrap_id (x := (j : Int) + 1) (by omega) (by omega), show ((j : Int) + 1) = ((j + 1 : Nat) : Int) by omega]
  refine ev_ite (fun e => ih (j + 1) true h2 (.inl rfl)) (fun e => ev_pos (by omega) (ev_pos (by omega) (ev_pos (by omega) ?_)))
  rw [show rd_L2 st (i : Int) = z from getD_at hz, show rd_L2 p (j : Int) = y from getD_at hy]
  refine Ev.bind (sameInts_ev z y (by omega)) (ih (j + 1) _ h2 ?_)
  rcases hf with hf | hf
  ·exact absurd hf e
  ·rcases List.mem_cons.1 hf with hf | hf
   ·exact .inl (decide_eq_true hf)
   ·exact .inr hf
theorem FnPositions_l1 (n : Int) (xs p st : List (List Int)) (hn : xs.length ≤ 1048576) (hp : p.length ≤ 1024) (hi : ∀ y ∈ st, y.length ≤ 10) (hst : st.length ≤ 1024) : ∀ (zs : List (List Int)) (i : Nat), st.drop i = zs → (∀ z ∈ zs, z ∈ p) → Ev (fun k => laws_FnPositions.l1 k p st (i : Int) n xs) true := by
 intro zs
 induction zs with
 | nil =>
  intro i h _
  have := at_end h
  refine Ev.step (fun k => by rw [laws_FnPositions.l1]) (ev_neg (by omega) ?_)
  exact FnPositions_l3 n xs hn n.toNat 0 (fun hg => by have := isGraph_n hg; omega)
 | cons z zs ih =>
  intro i h hm
  obtain ⟨hlt, hz, h2, _⟩ := at_drop h
  refine Ev.step (fun k => by rw [laws_FnPositions.l1]) (ev_pos (by omega) ?_)
  exact FnPositions_l2 n xs p st hp hi hst i z hz (ih (i + 1) h2 (fun y hy => hm y (List.mem_cons_of_mem _ hy))) p 0 false rfl (.inr (hm z (by simp)))
theorem FnPositions_l0 (n : Int) (xs : List (List Int)) (hn : xs.length ≤ 1048576) : ∀ (zs : List (List Int)) (i : Nat), (allV n xs).drop i = zs → Ev (fun k => laws_FnPositions.l0 k (allV n xs) (prefV n xs) ((allV n xs).filter (stable n xs)) (i : Int) n xs) true := by
 obtain ⟨hl, _, hf⟩ := allV_facts n xs
 obtain ⟨hp, _⟩ := prefV_facts n xs
 obtain ⟨G, eG, hGl, hG1, _⟩ := grounded_impl n xs hn
 have gr : ∀ s ∈ allV n xs, isGraph n xs = true := by
  intro s hs
  cases hg : isGraph n xs with
  | true => rfl
  | false =>
   unfold allV at hs
   rw [if_neg (by rw [hg]; decide)] at hs
   exact absurd hs (by simp)
 have last : Ev (fun k => laws_FnPositions.j2 k (prefV n xs) ((allV n xs).filter (stable n xs)) false n xs) true := by
  refine Ev.step (fun k => by rw [laws_FnPositions.j2]) (ev_neg Bool.false_ne_true ?_)
  refine FnPositions_l1 n xs _ _ hn hp (fun y hy => (hf y (List.mem_filter.1 hy).1).1) (Nat.le_trans (List.length_filter_le _ _) hl) _ 0 rfl (fun z hz => ?_)
  obtain ⟨h1, h2⟩ := List.mem_filter.1 hz
  exact stable_pref (gr z h1) h1 h2
 intro zs
 induction zs with
 | nil =>
  intro i h
  have := at_end h
  refine Ev.step (fun k => by rw [laws_FnPositions.l0]) (ev_neg (by omega) (ev_ite (fun e => ?_) (fun _ => last)))
  obtain ⟨s, hs⟩ := List.exists_mem_of_ne_nil (allV n xs) (fun h => by rw [h] at e; exact absurd e (by decide))
  have hg := gr s hs
  obtain ⟨R, hR, rfl⟩ := hG1 hg
  have hia := inAllV_len (allV n xs) (fun y hy => (hf y hy).1)
  refine Ev.bind (inAll_impl _ hl (fun y hy => (hf y hy).1)) (Ev.bind eG (Ev.bind (sameInts_ev _ _ (by omega)) ?_))
  rw [decide_eq_true (inAll_grounded hg hR)]
  exact last
 | cons z zs ih =>
  intro i h
  obtain ⟨hlt, hz, h2, _⟩ := at_drop h
  have hm := List.mem_of_getElem? hz
  have hg := gr z hm
  have hzl := (hf z hm).1
  obtain ⟨R, hR, rfl⟩ := hG1 hg
  have hc := (allV_mem hg z).1 hm
  refine Ev.step (fun k => by rw [laws_FnPositions.l0]) (ev_pos (by omega) (ev_pos (by omega) ?_))
  rw [show rd_L2 (allV n xs) (i : Int) = z from getD_at hz, wrap_id (x := (i : Int) + 1) (by omega) (by omega)]
  have hw : Ev (fun k => laws_within.f k (iterD n xs R) z) true := withinL_l0 _ z (by omega) (by omega) _ 0 rfl (fun y hy => grounded_least hc R y hy)
  exact Ev.bind (complete_impl n xs z hn (by omega)) (ev_pos hc (Ev.bind eG (Ev.bind hw (ev_pos rfl (ih (i + 1) h2)))))
theorem FnPositions (l0 : List Int) (g0 : l0.length ≤ 9223372036854775807 ∧ ∀ y ∈ l0, (Lit.int .u8 y).wf = true) : ∃ k, laws_FnPositions.f k l0 = some true := by
 refine Ev.rounds (g := fun k => laws_FnPositions.f k l0) ?_
 unfold laws_FnPositions.f
 by_cases hbig : (l0.length : Int) > 1048576
 ·exact ev_bind0 (big_eq l0) (ev_pos (decide_eq_true hbig) (Ev.now _))
 have hb : l0.length ≤ 1048576 := by omega
 refine ev_bind0 (big_eq l0) (ev_neg (by simpa using hbig) ?_)
 obtain ⟨n, xs, e1, hx⟩ := drawPref_ok l0 hb
 refine Ev.bind e1 ?_
 dsimp only
 refine Ev.bind (all_impl n xs (by omega)) (Ev.bind (all_spec n xs (by omega)) (ev_pos rfl (Ev.bind (pref_impl n xs (by omega)) (Ev.bind (stables_ev n xs (by omega)) (Ev.bind (isGraph_impl n xs (by omega)) ?_)))))
 rw [pref_graph (n := n) (xs := xs) (by omega)]
 have hle : decide (((prefV n xs).length : Int) > ((allV n xs).length : Int)) = false := by
  have : (prefV n xs).length ≤ (allV n xs).length := List.length_filter_le _ _
  exact decide_eq_false (by omega)
 rw [hle]
 have e2 : decide ((prefV n xs).length > 0) = decide (((prefV n xs).length : Int) > 0) := decide_eq_decide.2 (by omega)
 rw [e2]
 refine ev_neg (by simp) (Ev.step (fun k => by rw [laws_FnPositions.j0]) (ev_neg Bool.false_ne_true ?_))
 exact FnPositions_l0 n xs (by omega) _ 0 rfl

end Go.Proofs.Ytdlobolnajcfnaa.Pure
