/- The plain statement of the law FnClocks, for all numbers and lists. -/
import Derived.Test.YtamjdlclmcbpcaaPFnClocksx0
import Derived.Test.YtamjdlclmcbpcaaPFnClocksx1
import Derived.Test.YtamjdlclmcbpcaaPFnClocksx2
import Derived.Test.YtamjdlclmcbpcaaPFnClocksx3
import Derived.Test.YtamjdlclmcbpcaaBase
set_option linter.unusedVariables false
set_option linter.unusedSimpArgs false
namespace Go.Proofs.Ytamjdlclmcbpcaa.Pure
open Go.RowKit Go.Proofs.Ytamjdlclmcbpcaa.PFnClocks Go.Proofs.YtamjdlclmcbpcaaW.PrintWords Go.Proofs.YtamjdlclmcbpcaaW.PrintLast Go.Proofs.YtamjdlclmcbpcaaW.PrintMore Go.Proofs.Ytamjdlclmcbpcaa.Base
theorem inRange_eq (x a b : Int) : impl_InRange.f x a b = some (decide (a ≤ x ∧ x ≤ b)) := by
  unfold impl_InRange.f
  by_cases h : a ≤ x <;> simp [h]

/-- Where a reader of draws stands: within its bytes. -/
def Cur (b : List Int) (i : Int) : Prop := 0 ≤ i ∧ i ≤ b.length
theorem and255 (x : Int) : 0 ≤ Go.bits .and .i64 x 255 ∧ Go.bits .and .i64 x 255 ≤ 255 := by
  have h : (BitVec.ofInt 64 x &&& BitVec.ofInt 64 255).toNat ≤ 255 := by
    rw [BitVec.toNat_and]
    have h2 : (BitVec.ofInt 64 255).toNat = 255 := by decide
    rw [h2]
    exact Nat.and_le_right
  have e : Go.bits .and .i64 x 255 = IntKind.i64.wrap ((BitVec.ofInt 64 x &&& BitVec.ofInt 64 255).toNat : Int) := rfl
  rw [e, IntKind.wrap_i64]
  omega
theorem l1Byte_ok (b : List Int) (i h : Int) (hc : Cur b i) (hb : b.length ≤ 1048576) : ∃ r i2 h2, spec_l1Byte.f b i h = some (r, i2, h2) ∧ (0 ≤ r ∧ r ≤ 255) ∧ Cur b i2 := by
  obtain ⟨hc0, hc1⟩ := hc
  unfold spec_l1Byte.f
  by_cases hi : i < (b.length : Int)
  · rw [if_pos hi, if_pos hc0, wrap_id (x := i + 1) (by omega) (by omega)]
    exact ⟨_, _, _, rfl, and255 _, by unfold Cur; omega⟩
  · rw [if_neg hi]
    exact ⟨_, _, _, rfl, and255 _, hc0, hc1⟩
theorem tmod_ok (x n : Int) (hx : 0 ≤ x) (hn : 0 < n) : 0 ≤ Int.tmod x n ∧ Int.tmod x n < n := by
  rw [Int.tmod_eq_emod_of_nonneg hx]
  exact ⟨Int.emod_nonneg _ (by omega), Int.emod_lt_of_pos _ hn⟩
theorem l1Below_ok (b : List Int) (i h n : Int) (hc : Cur b i) (hb : b.length ≤ 1048576) : ∃ r i2 h2, spec_l1Below.f b i h n = some (r, i2, h2) ∧ 0 ≤ r ∧ (0 < n → r < n) ∧ (n ≤ 0 → r = 0) ∧ Cur b i2 := by
  unfold spec_l1Below.f
  by_cases h0 : n ≤ 0
  · rw [if_pos h0]
    exact ⟨_, _, _, rfl, by omega, by omega, fun _ => rfl, hc⟩
  · rw [if_neg h0]
    by_cases h1 : n ≤ 256
    · obtain ⟨r, i2, h2, e, hr, hc2⟩ := l1Byte_ok b i h hc hb
      rw [if_pos h1, e]
      simp only [Option.bind_some]
      rw [if_neg (by omega)]
      exact ⟨_, _, _, rfl, (tmod_ok r n hr.1 (by omega)).1, fun _ => (tmod_ok r n hr.1 (by omega)).2, by omega, hc2⟩
    · obtain ⟨r, i2, h2, e, hr, hc2⟩ := l1Byte_ok b i h hc hb
      obtain ⟨r3, i3, h3, e3, hr3, hc3⟩ := l1Byte_ok b i2 h2 hc2 hb
      obtain ⟨r4, i4, h4, e4, hr4, hc4⟩ := l1Byte_ok b i3 h3 hc3 hb
      rw [if_neg h1, e]
      simp only [Option.bind_some]
      rw [e3]
      simp only [Option.bind_some]
      rw [e4]
      simp only [Option.bind_some]
      rw [if_neg (by omega), wrap_id (x := r * 65536) (by omega) (by omega), wrap_id (x := r3 * 256) (by omega) (by omega), wrap_id (x := r * 65536 + r3 * 256) (by omega) (by omega), wrap_id (x := r * 65536 + r3 * 256 + r4) (by omega) (by omega)]
      exact ⟨_, _, _, rfl, (tmod_ok _ n (by omega) (by omega)).1, fun _ => (tmod_ok _ n (by omega) (by omega)).2, by omega, hc4⟩
theorem l1New_l0 (b : List Int) (hb : b.length ≤ 1048576) : ∀ (zs : List Int) (i : Nat) (h : Int), b.drop i = zs → ∃ h2, Ev (fun k => spec_l1New.l0 k b h (i : Int)) (b, 0, h2) := by
  intro zs
  induction zs with
  | nil =>
    intro i h hd
    have := at_end hd
    refine ⟨h, Ev.step (fun k => by rw [spec_l1New.l0]) ?_⟩
    exact ev_neg (by omega) (Ev.now _)
  | cons z zs ih =>
    intro i h hd
    obtain ⟨hi, hz, hd2, _⟩ := at_drop hd
    by_cases h4 : (i : Int) < 4000
    · obtain ⟨h2, hev⟩ := ih (i + 1) (Go.bits .and .i64 (wrap64 ((wrap64 ((wrap64 (h * 137)) + (wrap64 (rd b (i : Int))))) + 11)) 1073741823) hd2
      refine ⟨h2, Ev.step (fun k => by rw [spec_l1New.l0]) ?_⟩
      refine ev_pos (by omega) (ev_pos h4 (ev_pos (by omega) ?_))
      rw [wrap_id (x := (i : Int) + 1) (by omega) (by omega)]
      exact hev
    · refine ⟨h, Ev.step (fun k => by rw [spec_l1New.l0]) ?_⟩
      exact ev_pos (by omega) (ev_neg h4 (Ev.now _))
theorem l1New_ok (b : List Int) (hb : b.length ≤ 1048576) : ∃ h2, Ev (fun k => spec_l1New.f k b) (b, 0, h2) ∧ Cur b 0 := by
  unfold spec_l1New.f
  obtain ⟨h2, hev⟩ := l1New_l0 b hb b 0 (wrap64 (193017 + (b.length : Int))) rfl
  exact ⟨h2, hev, by unfold Cur; omega⟩
theorem l1Int_ok (b : List Int) (i h : Int) (l : List Int) (hc : Cur b i) (hb : b.length ≤ 1048576) (hl : 0 < l.length) : ∃ r i2 h2, spec_l1Int.f b i h l = some (r, i2, h2) ∧ r ∈ l ∧ Cur b i2 := by
  unfold spec_l1Int.f
  obtain ⟨r, i2, h2, e, h0, hlt, _, hc2⟩ := l1Below_ok b i h (l.length : Int) hc hb
  have := hlt (by omega)
  rw [e]
  simp only [Option.bind_some]
  rw [if_pos h0, if_pos this]
  refine ⟨_, _, _, rfl, ?_, hc2⟩
  obtain ⟨n, rfl⟩ : ∃ n : Nat, r = n := ⟨r.toNat, by omega⟩
  rw [rd_nat l n (by omega)]
  exact List.getElem_mem _
theorem l4Raw_ok (b : List Int) (i h : Int) (hc : Cur b i) (hb : b.length ≤ 1048576) : ∃ r i2 h2, spec_l4Raw.f b i h = some (r, i2, h2) ∧ (-9223372036854775808 ≤ r ∧ r ≤ 9223372036854775807) ∧ Cur b i2 := by
  unfold spec_l4Raw.f
  obtain ⟨r, i2, h2, e, hm, hc2⟩ := l1Int_ok b i h [(-1), 0, 5, 10, 11, 9223372036854775807, (-9223372036854775808)] hc hb (by decide)
  rw [e]
  refine ⟨_, _, _, rfl, ?_, hc2⟩
  simp only [List.mem_cons, List.not_mem_nil, or_false] at hm
  show -9223372036854775808 ≤ r ∧ r ≤ 9223372036854775807
  omega
theorem l14Any_ok (b : List Int) (i h : Int) (hc : Cur b i) (hb : b.length ≤ 1048576) : ∃ x y z i2 h2, spec_l14Any.f b i h = some (x, y, z, i2, h2) ∧ (-9223372036854775808 ≤ x ∧ x ≤ 9223372036854775807) ∧ (-9223372036854775808 ≤ y ∧ y ≤ 9223372036854775807) ∧ (-9223372036854775808 ≤ z ∧ z ≤ 9223372036854775807) ∧ Cur b i2 := by
  unfold spec_l14Any.f
  obtain ⟨r1, i1, h1, e1, p1, q1, _, c1⟩ := l1Below_ok b i h 5 hc hb
  obtain ⟨r2, i2, h2, e2, p2, q2, _, c2⟩ := l1Below_ok b i1 h1 15 c1 hb
  have := q1 (by omega)
  have := q2 (by omega)
  simp only [e1, e2, Option.bind_some]
  rw [wrap_id (x := 1 + r2) (by omega) (by omega), wrap_id (x := 30 * (1 + r2)) (by omega) (by omega), wrap_id (x := 30 * (1 + r2) + 16) (by omega) (by omega), wrap_id (x := 1 + r1) (by omega) (by omega)]
  obtain ⟨r3, i3, h3, e3, p3, q3, _, c3⟩ := l1Below_ok b i2 h2 (30 * (1 + r2) + 16) c2 hb
  have := q3 (by omega)
  obtain ⟨r4, i4, h4, e4, p4, q4, _, c4⟩ := l1Below_ok b i3 h3 12 c3 hb
  simp only [e3, e4, Option.bind_some]
  by_cases k0 : r4 = 0
  · obtain ⟨r5, i5, h5, e5, p5, c5⟩ := l1Int_ok b i4 h4 [0, 99, 100] c4 hb (by decide)
    rw [if_pos k0, e5]
    simp only [List.mem_cons, List.not_mem_nil, or_false] at p5
    exact ⟨_, _, _, _, _, rfl, by dsimp only; omega, by omega, by omega, c5⟩
  · rw [if_neg k0]
    by_cases k1 : r4 = 1
    · obtain ⟨r5, i5, h5, e5, p5, c5⟩ := l1Int_ok b i4 h4 [0, 1, 1000, 1001] c4 hb (by decide)
      rw [if_pos k1, e5]
      simp only [List.mem_cons, List.not_mem_nil, or_false] at p5
      exact ⟨_, _, _, _, _, rfl, by omega, by dsimp only; omega, by omega, c5⟩
    · rw [if_neg k1]
      by_cases k2 : r4 = 2
      · obtain ⟨r5, i5, h5, e5, p5, c5⟩ := l4Raw_ok b i4 h4 c4 hb
        rw [if_pos k2, e5]
        exact ⟨_, _, _, _, _, rfl, by omega, by omega, p5, c5⟩
      · rw [if_neg k2]
        exact ⟨_, _, _, _, _, rfl, by omega, by omega, by omega, c4⟩
theorem drawSpeak_ok (b : List Int) (hb : b.length ≤ 1048576) : ∃ x y z n, Ev (fun k => spec_DrawSpeak.f k b) (x, y, z, n) ∧ (-9223372036854775808 ≤ x ∧ x ≤ 9223372036854775807) ∧ (-9223372036854775808 ≤ y ∧ y ≤ 9223372036854775807) ∧ (-9223372036854775808 ≤ z ∧ z ≤ 9223372036854775807) ∧ (-9223372036854775808 ≤ n ∧ n ≤ 9223372036854775807) := by
  unfold spec_DrawSpeak.f
  obtain ⟨h, hev, hc⟩ := l1New_ok b hb
  obtain ⟨x, y, z, i2, h2, e, hx, hy, hz, hc2⟩ := l14Any_ok b 0 h hc hb
  obtain ⟨n, i3, h3, e3, hm, _⟩ := l1Int_ok b i2 h2 [0, 1, 20, 500, 9223372036854775807, (-1)] hc2 hb (by decide)
  refine ⟨x, y, z, n, Ev.bind hev (ev_bind0 e (ev_bind0 e3 (Ev.now _))), hx, hy, hz, ?_⟩
  simp only [List.mem_cons, List.not_mem_nil, or_false] at hm
  omega
theorem drawTotalUsed_l0 (b : List Int) (hb : b.length ≤ 1048576) : ∀ (d : Nat) (ys : List S25) (i h : Int), ys.length + d ≤ 10 → Cur b i → ∃ l w, Ev (fun k => spec_DrawTotalUsed.l0 k ys (d : Int) b i h) (l, w) ∧ l.length ≤ 10 := by
  intro d
  induction d with
  | zero =>
    intro ys i h hl hc
    obtain ⟨r, i2, h2, e, _⟩ := l1Below_ok b i h 5 hc hb
    refine ⟨ys, _, Ev.step (fun k => by rw [spec_DrawTotalUsed.l0]) (ev_neg (by omega) (ev_bind0 e (Ev.now _))), by omega⟩
  | succ d ih =>
    intro ys i h hl hc
    obtain ⟨x, y, z, i2, h2, e, _, _, _, hc2⟩ := l14Any_ok b i h hc hb
    obtain ⟨l, w, hev, hle⟩ := ih (ys ++ [(⟨x, y, z⟩ : S25)]) i2 h2 (by simp; omega) hc2
    refine ⟨l, w, ?_, hle⟩
    refine Ev.step (fun k => by rw [spec_DrawTotalUsed.l0]) ?_
    refine ev_pos (by omega) (ev_bind0 e ?_)
    refine ev_pos (by omega) ?_
    rw [wrap_id (by omega) (by omega), show ((d + 1 : Nat) : Int) - 1 = (d : Int) by omega]
    exact hev
theorem drawTotalUsed_ok (b : List Int) (hb : b.length ≤ 1048576) : ∃ l w, Ev (fun k => spec_DrawTotalUsed.f k b) (l, w) ∧ l.length ≤ 10 := by
  unfold spec_DrawTotalUsed.f
  obtain ⟨h, hev, hc⟩ := l1New_ok b hb
  obtain ⟨n, i2, h2, e, h0, hlt, _, hc2⟩ := l1Below_ok b 0 h 6 hc hb
  have := hlt (by omega)
  obtain ⟨l, w, hev2, hle⟩ := drawTotalUsed_l0 b hb n.toNat [] i2 h2 (by simp; omega) hc2
  rw [show (n.toNat : Int) = n by omega] at hev2
  exact ⟨l, w, Ev.bind hev (ev_bind0 e hev2), hle⟩
theorem ascends_l0 (xs : List Int) (hn : xs.length ≤ 9223372036854775807) : ∀ (zs : List Int) (i : Nat) (p : Int), xs.drop i = zs → 0 < i → xs[i - 1]? = some p → ∃ r, Ev (fun k => laws_ascends.l0 k xs (i : Int)) r ∧ (r = true ↔ (p :: zs).Pairwise (· < ·)) := by
  intro zs
  induction zs with
  | nil =>
    intro i p h hi hp
    have := at_end h
    refine ⟨true, Ev.step (fun k => by rw [laws_ascends.l0]) ?_, by simp⟩
    exact ev_neg (by omega) (Ev.now _)
  | cons z zs ih =>
    intro i p h hi hp
    obtain ⟨hlt, hz, h2, _⟩ := at_drop h
    have e1 : rd xs ((i : Int) - 1) = p := by
      rw [show (i : Int) - 1 = ((i - 1 : Nat) : Int) by omega]
      exact rd_get hp
    by_cases hpz : p < z
    · obtain ⟨r, hev, hiff⟩ := ih (i + 1) z h2 (by omega) (by simpa using hz)
      refine ⟨r, Ev.step (fun k => by rw [laws_ascends.l0]) ?_, ?_⟩
      · rw [wrap_id (x := (i : Int) - 1) (by omega) (by omega), wrap_id (x := (i : Int) + 1) (by omega) (by omega), e1, rd_get hz]
        exact ev_pos (by omega) (ev_pos (by omega) (ev_pos (by omega) (ev_pos (by omega) (ev_neg (by omega) hev))))
      · rw [hiff]
        constructor
        · intro hh
          refine List.pairwise_cons.2 ⟨?_, hh⟩
          intro a ha
          rcases List.mem_cons.1 ha with rfl | ha
          · exact hpz
          · have := (List.pairwise_cons.1 hh).1 a ha
            omega
        · intro hh
          exact (List.pairwise_cons.1 hh).2
    · refine ⟨false, Ev.step (fun k => by rw [laws_ascends.l0]) ?_, ?_⟩
      · rw [wrap_id (x := (i : Int) - 1) (by omega) (by omega), wrap_id (x := (i : Int) + 1) (by omega) (by omega), e1, rd_get hz]
        exact ev_pos (by omega) (ev_pos (by omega) (ev_pos (by omega) (ev_pos (by omega) (ev_pos (by omega) (Ev.now _)))))
      · simp [hpz]
theorem ascends_ev (xs : List Int) (hn : xs.length ≤ 9223372036854775807) : ∃ r, Ev (fun k => laws_ascends.f k xs) r ∧ (r = true ↔ xs.Pairwise (· < ·)) := by
  unfold laws_ascends.f
  cases xs with
  | nil =>
    refine ⟨true, Ev.step (fun k => by rw [laws_ascends.l0]) ?_, by simp⟩
    exact ev_neg (by simp) (Ev.now _)
  | cons x r => exact ascends_l0 (x :: r) hn r 1 x rfl (by omega) rfl
theorem big_eq (b : List Int) : laws_big.f b = some (decide ((b.length : Int) > 1048576)) := rfl

def isSlotI (a b c : Int) : Prop := (1 ≤ a ∧ a ≤ 99) ∧ (1 ≤ b ∧ b ≤ 1000) ∧ 0 ≤ c ∧ c ≤ b + 15
instance (a b c : Int) : Decidable (isSlotI a b c) := by unfold isSlotI; infer_instance
theorem isSlot_impl (a b c : Int) : impl_IsSlot.f a b c = some (decide (isSlotI a b c)) := by
  unfold impl_IsSlot.f isSlotI
  simp only [inRange_eq, Option.bind_some]
  by_cases h1 : 1 ≤ a ∧ a ≤ 99
  · by_cases h2 : 1 ≤ b ∧ b ≤ 1000
    · rw [wrap_id (by omega) (by omega)]
      simp [h1, h2]
    · simp [h2]
  · simp [h1]
def totalUsed (who : Int) : List S25 → Int
  | [] => 0
  | s :: r => (if isSlotI s.f0 s.f1 s.f2 ∧ s.f0 = who then s.f2 else 0) + totalUsed who r
theorem totalUsed_bound (who : Int) (l : List S25) : 0 ≤ totalUsed who l ∧ totalUsed who l ≤ 1015 * l.length := by
  induction l with
  | nil => simp [totalUsed]
  | cons s r ih =>
    simp only [totalUsed, List.length_cons]
    split
    · rename_i h
      obtain ⟨⟨_, h1, h2⟩, _⟩ := h
      omega
    · omega
theorem totalUsed_impl_l0 (xs : List S25) (who : Int) (hn : xs.length ≤ 1048576) : ∀ (zs : List S25) (i : Nat) (c : Int), xs.drop i = zs → 0 ≤ c → c ≤ 1015 * i → Ev (fun k => impl_TotalUsed.l0 k who c xs xs.length (i : Int)) (c + totalUsed who zs) := by
  intro zs
  induction zs with
  | nil =>
    intro i c h _ _
    have := at_end h
    refine Ev.step (fun k => by rw [impl_TotalUsed.l0]) ?_
    exact ev_neg (by omega) (ev_eq (Ev.now _) (by simp [totalUsed]))
  | cons z zs ih =>
    intro i c h hc1 hc2
    obtain ⟨hi, hz, h2, hl⟩ := at_drop h
    have hr : rd_T25 xs (i : Int) = z := getD_at hz
    refine Ev.step (fun k => by rw [impl_TotalUsed.l0]) ?_
    refine ev_pos (by omega) (ev_pos (by omega) (ev_pos (by omega) ?_))
    rw [hr, wrap_id (x := (i : Int) + 1) (by omega) (by omega)]
    refine ev_bind0 (isSlot_impl _ _ _) (ev_ite (fun e => ?_) (fun e => ev_eq (ih (i + 1) c h2 (by omega) (by omega)) ?_))
    · simp only [decide_eq_true_eq] at e
      have e2 := e
      unfold isSlotI at e2
      refine ev_ite (fun e1 => ?_) (fun e1 => ev_eq (ih (i + 1) c h2 (by omega) (by omega)) ?_)
      · rw [wrap_id (by omega) (by omega)]
        refine ev_eq (ih (i + 1) (c + z.f2) h2 (by omega) (by omega)) ?_
        rw [totalUsed, if_pos ⟨e, e1⟩]
        omega
      · rw [totalUsed, if_neg (fun hh => e1 hh.2)]
        omega
    · simp only [decide_eq_true_eq] at e
      rw [totalUsed, if_neg (fun hh => e hh.1)]
      omega
theorem totalUsed_impl (xs : List S25) (who : Int) (hn : xs.length ≤ 1048576) : Ev (fun k => impl_TotalUsed.f k xs who) (totalUsed who xs) := by
  unfold impl_TotalUsed.f
  exact ev_eq (totalUsed_impl_l0 xs who hn xs 0 0 rfl (by omega) (by omega)) (by omega)
def bellsI (a b c : Int) : List Int := if isSlotI a b c then (if b > 120 then [60, b - 60] ++ [b, b + 15] else [b, b + 15]) else []
theorem bellsI_length (a b c : Int) : (bellsI a b c).length ≤ 4 := by
  unfold bellsI
  split
  · split <;> simp
  · simp
theorem bellsI_impl (a b c : Int) : impl_BellsAt.f a b c = some (bellsI a b c) := by
  unfold impl_BellsAt.f bellsI
  simp only [isSlot_impl, Option.bind_some]
  by_cases h : isSlotI a b c
  · have h2 := h
    unfold isSlotI at h2
    simp only [h, decide_true, if_true]
    rw [wrap_id (by omega) (by omega), wrap_id (by omega) (by omega)]
    by_cases h2 : b > 120
    · simp [h2]
    · simp [h2]
  · simp [h]
theorem clocks_j1 (b : List Int) (hb : b.length ≤ 1048576) (x y z : Int) : Ev (fun k => laws_FnClocks.j1 k b false x y z) true := by
  refine Ev.step (fun k => by rw [laws_FnClocks.j1]) ?_
  have hl := bellsI_length x y z
  obtain ⟨l, w, hev, hle⟩ := drawTotalUsed_ok b hb
  obtain ⟨r, hr, hiff⟩ := ascends_ev (bellsI x y z) (by omega)
  refine ev_neg (by decide) (ev_bind0 (bellsI_impl _ _ _) (Ev.bind hev (Ev.bind hr ?_)))
  have ha : r = true := by
    rw [hiff]
    unfold bellsI
    split
    · rename_i h
      obtain ⟨_, _, _⟩ := h
      split
      · simp; omega
      · simp; omega
    · simp
  refine ev_pos ha (ev_bind0 (isSlot_impl _ _ _) (ev_pos ?_ (Ev.bind (totalUsed_impl l w (by omega)) (ev_eq (Ev.now _) ?_))))
  · unfold bellsI
    by_cases h : isSlotI x y z
    · by_cases h2 : y > 120 <;> simp [h, h2]
    · simp [h]
  · have := (totalUsed_bound w l).1
    simpa using this
theorem clocks_j0 (b : List Int) (hb : b.length ≤ 1048576) (x y z : Int) (hz : (-9223372036854775808 ≤ y ∧ y ≤ 9223372036854775807) ∧ (-9223372036854775808 ≤ z ∧ z ≤ 9223372036854775807)) : Ev (fun k => laws_FnClocks.j0 k b false x y z) true := by
  refine Ev.step (fun k => by rw [laws_FnClocks.j0]) ?_
  refine ev_neg (by decide) (ev_bind0 (isSlot_impl _ _ _) (ev_ite (fun e => ?_) (fun e => clocks_j1 b hb x y z)))
  simp only [decide_eq_true_eq] at e
  have e2 := e
  obtain ⟨_, _, _⟩ := e2
  refine ev_bind0 (a := mx 0 (y - z)) (by unfold impl_LeftOf.f; rw [isSlot_impl]; simp [e, wrap_id (x := y - z) (by omega) (by omega)]) (ev_bind0 (a := mx 0 (z - y)) (by unfold impl_OverBy.f; rw [isSlot_impl]; simp [e, wrap_id (x := z - y) (by omega) (by omega)]) ?_)
  have hb2 : (wrap64 (mx 0 (y - z) - mx 0 (z - y)) != wrap64 (y - z)) = false := by
    unfold mx
    rw [wrap_id (x := y - z) (by omega) (by omega), wrap_id (by split <;> split <;> omega) (by split <;> split <;> omega), bne_eq_false_iff_eq]
    split <;> split <;> omega
  rw [hb2]
  exact clocks_j1 b hb x y z
theorem speak_impl (x y z n : Int) : impl_Speak.f x y z n = some (if isSlotI x y z ∧ 0 ≤ n then (x, y, z + (if n ≤ y + 15 - z then n else y + 15 - z), if n ≤ y + 15 - z then n else y + 15 - z) else (x, y, z, 0)) := by
  unfold impl_Speak.f
  rw [isSlot_impl]
  simp only [Option.bind_some]
  by_cases h : isSlotI x y z
  · have h2 := h
    obtain ⟨_, _, _⟩ := h2
    simp only [h, decide_true, if_true, true_and]
    by_cases hn : n < 0
    · rw [if_pos hn, if_neg (by omega)]
    · rw [if_neg hn, if_pos (by omega), wrap_id (x := y + 15) (by omega) (by omega), wrap_id (x := y + 15 - z) (by omega) (by omega)]
      unfold mn
      by_cases hl : y + 15 - z < n
      · rw [if_pos hl, if_neg (by omega), wrap_id (by omega) (by omega)]
      · rw [if_neg hl, if_pos (by omega), wrap_id (by omega) (by omega)]
  · simp [h]
theorem FnClocks (l0 : List (Int)) (g0 : l0.length ≤ 9223372036854775807 ∧ ∀ y ∈ l0, (Lit.int .u8 y).wf = true) : ∃ k, laws_FnClocks.f k l0 = some true := by
  refine Ev.rounds (g := fun k => laws_FnClocks.f k l0) ?_
  unfold laws_FnClocks.f
  refine ev_bind0 (big_eq l0) (ev_ite (fun _ => Ev.now _) (fun h => ?_))
  have hb : l0.length ≤ 1048576 := by
    simp only [decide_eq_true_eq] at h
    omega
  obtain ⟨x, y, z, n, hev, hx, hy, hz, hn⟩ := drawSpeak_ok l0 hb
  refine Ev.bind hev (ev_bind0 (speak_impl x y z n) ?_)
  dsimp only
  by_cases hs : isSlotI x y z ∧ 0 ≤ n
  · rw [if_pos hs]
    obtain ⟨hs, h0⟩ := hs
    have h2 := hs
    obtain ⟨_, _, _⟩ := h2
    dsimp only
    have hs2 : isSlotI x y (z + (if n ≤ y + 15 - z then n else y + 15 - z)) := by
      unfold isSlotI
      split <;> omega
    have hm : 0 ≤ (if n ≤ y + 15 - z then n else y + 15 - z) ∧ (if n ≤ y + 15 - z then n else y + 15 - z) ≤ n ∧ (if n ≤ y + 15 - z then n else y + 15 - z) ≤ 1015 := by
      split <;> omega
    refine ev_neg (by omega) (ev_pos ?_ (ev_bind0 (isSlot_impl _ _ _) (ev_pos (by simpa using hs) (ev_bind0 (isSlot_impl _ _ _) (ev_pos (by simpa using hs2) (ev_neg (by omega) (clocks_j0 l0 hb x y z ⟨hy, hz⟩)))))))
    rw [wrap_id (by omega) (by omega)]
  · rw [if_neg hs]
    dsimp only
    refine ev_neg (by omega) (ev_pos ?_ (ev_bind0 (isSlot_impl _ _ _) (ev_ite (fun e => ?_) (fun e => clocks_j0 l0 hb x y z ⟨hy, hz⟩))))
    · rw [wrap_id (by omega) (by omega)]
      omega
    · simp only [decide_eq_true_eq] at e
      have hn0 : n < 0 := by
        by_cases hh : 0 ≤ n
        · exact absurd ⟨e, hh⟩ hs
        · omega
      refine ev_bind0 (isSlot_impl _ _ _) (ev_pos (by simpa using e) (ev_pos (by omega) ?_))
      have : decide (n ≥ 0) = false := by simpa using hn0
      rw [this]
      exact clocks_j0 l0 hb x y z ⟨hy, hz⟩
end Go.Proofs.Ytamjdlclmcbpcaa.Pure
