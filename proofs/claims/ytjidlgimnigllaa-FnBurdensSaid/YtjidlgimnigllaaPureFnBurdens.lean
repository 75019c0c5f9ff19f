/- The plain statement of the law FnBurdens, for all numbers and lists. -/
import Derived.Test.YtjidlgimnigllaaPFnBurdensx0
import Derived.Test.YtjidlgimnigllaaPFnBurdensx1
import Derived.Test.YtjidlgimnigllaaPFnBurdensx2
import Derived.Test.YtjidlgimnigllaaPFnBurdensx3
import Derived.Test.YtjidlgimnigllaaPFnBurdensx4
import Derived.Test.YtjidlgimnigllaaPFnBurdensx5
import Derived.Test.YtjidlgimnigllaaPFnBurdensx6
import Derived.Test.YtjidlgimnigllaaPFnBurdensx7
import Derived.Test.YtjidlgimnigllaaPFnBurdensx8
import Derived.Test.YtjidlgimnigllaaPFnBurdensx9
import Derived.Test.YtjidlgimnigllaaPFnBurdensx10
import Derived.Test.YtjidlgimnigllaaPFnBurdensx11
import Derived.Test.YtjidlgimnigllaaPFnBurdensx12
import Derived.Test.YtjidlgimnigllaaBase
set_option linter.unusedVariables false
set_option linter.unusedSimpArgs false
namespace Go.Proofs.Ytjidlgimnigllaa.Pure
open Go.RowKit Go.Proofs.Ytjidlgimnigllaa.PFnBurdens Go.Proofs.YtjidlgimnigllaaW.PrintWords Go.Proofs.YtjidlgimnigllaaW.PrintLast Go.Proofs.YtjidlgimnigllaaW.PrintMore Go.Proofs.Ytjidlgimnigllaa.Base
theorem l1In_eq (x a b : Int) : spec_l1In.f x a b = some (decide (a ≤ x ∧ x ≤ b)) := by
  unfold spec_l1In.f
  by_cases h : a ≤ x <;> simp [h]
theorem inRange_eq (x a b : Int) : impl_InRange.f x a b = some (decide (a ≤ x ∧ x ≤ b)) := by
  unfold impl_InRange.f
  by_cases h : a ≤ x <;> simp [h]

/-- Where a reader of draws stands: within its bytes. -/
def Cur (b : List Int) (i : Int) : Prop := 0 ≤ i ∧ i ≤ b.length
theorem and255 (x : Int) : 0 ≤ Go.bits .and .i64 x 255 ∧ Go.bits .and .i64 x 255 ≤ 255 := by
  have h : (BitVec.ofInt 64 x &&& BitVec.ofInt 64 255).toNat ≤ 255 := by
    rw [BitVec.toNat_and]
    have h2 : (BitVec.ofInt 64 255).toNat = 255 := by decide
    rw [h2]
    exact Nat.and_le_right
  have e : Go.bits .and .i64 x 255 = IntKind.i64.wrap ((BitVec.ofInt 64 x &&& BitVec.ofInt 64 255).toNat : Int) := rfl
  rw [e, IntKind.wrap_i64]
  omega
theorem l1Byte_ok (b : List Int) (i h : Int) (hc : Cur b i) (hb : b.length ≤ 1048576) : ∃ r i2 h2, spec_l1Byte.f b i h = some (r, i2, h2) ∧ (0 ≤ r ∧ r ≤ 255) ∧ Cur b i2 := by
  obtain ⟨hc0, hc1⟩ := hc
  unfold spec_l1Byte.f
  by_cases hi : i < (b.length : Int)
  · rw [if_pos hi, if_pos hc0, wrap_id (x := i + 1) (by omega) (by omega)]
    exact ⟨_, _, _, rfl, and255 _, by unfold Cur; omega⟩
  · rw [if_neg hi]
    exact ⟨_, _, _, rfl, and255 _, hc0, hc1⟩
theorem tmod_ok (x n : Int) (hx : 0 ≤ x) (hn : 0 < n) : 0 ≤ Int.tmod x n ∧ Int.tmod x n < n := by
  rw [Int.tmod_eq_emod_of_nonneg hx]
  exact ⟨Int.emod_nonneg _ (by omega), Int.emod_lt_of_pos _ hn⟩
theorem l1Below_ok (b : List Int) (i h n : Int) (hc : Cur b i) (hb : b.length ≤ 1048576) : ∃ r i2 h2, spec_l1Below.f b i h n = some (r, i2, h2) ∧ 0 ≤ r ∧ (0 < n → r < n) ∧ (n ≤ 0 → r = 0) ∧ Cur b i2 := by
  unfold spec_l1Below.f
  by_cases h0 : n ≤ 0
  · rw [if_pos h0]
    exact ⟨_, _, _, rfl, by omega, by omega, fun _ => rfl, hc⟩
  · rw [if_neg h0]
    by_cases h1 : n ≤ 256
    · obtain ⟨r, i2, h2, e, hr, hc2⟩ := l1Byte_ok b i h hc hb
      rw [if_pos h1, e]
      simp only [Option.bind_some]
      rw [if_neg (by omega)]
      exact ⟨_, _, _, rfl, (tmod_ok r n hr.1 (by omega)).1, fun _ => (tmod_ok r n hr.1 (by omega)).2, by omega, hc2⟩
    · obtain ⟨r, i2, h2, e, hr, hc2⟩ := l1Byte_ok b i h hc hb
      obtain ⟨r3, i3, h3, e3, hr3, hc3⟩ := l1Byte_ok b i2 h2 hc2 hb
      obtain ⟨r4, i4, h4, e4, hr4, hc4⟩ := l1Byte_ok b i3 h3 hc3 hb
      rw [if_neg h1, e]
      simp only [Option.bind_some]
      rw [e3]
      simp only [Option.bind_some]
      rw [e4]
      simp only [Option.bind_some]
      rw [if_neg (by omega), wrap_id (x := r * 65536) (by omega) (by omega), wrap_id (x := r3 * 256) (by omega) (by omega), wrap_id (x := r * 65536 + r3 * 256) (by omega) (by omega), wrap_id (x := r * 65536 + r3 * 256 + r4) (by omega) (by omega)]
      exact ⟨_, _, _, rfl, (tmod_ok _ n (by omega) (by omega)).1, fun _ => (tmod_ok _ n (by omega) (by omega)).2, by omega, hc4⟩
theorem l1New_l0 (b : List Int) (hb : b.length ≤ 1048576) : ∀ (zs : List Int) (i : Nat) (h : Int), b.drop i = zs → ∃ h2, Ev (fun k => spec_l1New.l0 k b h (i : Int)) (b, 0, h2) := by
  intro zs
  induction zs with
  | nil =>
    intro i h hd
    have := at_end hd
    refine ⟨h, Ev.step (fun k => by rw [spec_l1New.l0]) ?_⟩
    exact ev_neg (by omega) (Ev.now _)
  | cons z zs ih =>
    intro i h hd
    obtain ⟨hi, hz, hd2, _⟩ := at_drop hd
    by_cases h4 : (i : Int) < 4000
    · obtain ⟨h2, hev⟩ := ih (i + 1) (Go.bits .and .i64 (wrap64 ((wrap64 ((wrap64 (h * 137)) + (wrap64 (rd b (i : Int))))) + 11)) 1073741823) hd2
      refine ⟨h2, Ev.step (fun k => by rw [spec_l1New.l0]) ?_⟩
      refine ev_pos (by omega) (ev_pos h4 (ev_pos (by omega) ?_))
      rw [wrap_id (x := (i : Int) + 1) (by omega) (by omega)]
      exact hev
    · refine ⟨h, Ev.step (fun k => by rw [spec_l1New.l0]) ?_⟩
      exact ev_pos (by omega) (ev_neg h4 (Ev.now _))
theorem l1New_ok (b : List Int) (hb : b.length ≤ 1048576) : ∃ h2, Ev (fun k => spec_l1New.f k b) (b, 0, h2) ∧ Cur b 0 := by
  unfold spec_l1New.f
  obtain ⟨h2, hev⟩ := l1New_l0 b hb b 0 (wrap64 (193017 + (b.length : Int))) rfl
  exact ⟨h2, hev, by unfold Cur; omega⟩
theorem l1Int_ok (b : List Int) (i h : Int) (l : List Int) (hc : Cur b i) (hb : b.length ≤ 1048576) (hl : 0 < l.length) : ∃ r i2 h2, spec_l1Int.f b i h l = some (r, i2, h2) ∧ r ∈ l ∧ Cur b i2 := by
  unfold spec_l1Int.f
  obtain ⟨r, i2, h2, e, h0, hlt, _, hc2⟩ := l1Below_ok b i h (l.length : Int) hc hb
  have := hlt (by omega)
  rw [e]
  simp only [Option.bind_some]
  rw [if_pos h0, if_pos this]
  refine ⟨_, _, _, rfl, ?_, hc2⟩
  obtain ⟨n, rfl⟩ : ∃ n : Nat, r = n := ⟨r.toNat, by omega⟩
  rw [rd_nat l n (by omega)]
  exact List.getElem_mem _
theorem big_eq (b : List Int) : laws_big.f b = some (decide ((b.length : Int) > 1048576)) := rfl

def okPoint (p : S48) : Prop := (1 ≤ p.f0 ∧ p.f0 ≤ 99) ∧ (1 ≤ p.f1 ∧ p.f1 ≤ 2) ∧ 0 ≤ p.f2 ∧ p.f2 ≤ 4
instance (p : S48) : Decidable (okPoint p) := by unfold okPoint; infer_instance
/-- All points from the first one on are good, and their Ids go up, from behind q on. -/
def goodFrom : Option Int → List S48 → Bool
  | _, [] => true
  | q, p :: r => decide (okPoint p) && (match q with | none => true | some x => decide (x < p.f0)) && goodFrom (some p.f0) r
def arePoints (l : List S48) : Bool := goodFrom none l && decide (l.length ≤ 30)
def before (xs : List S48) (i : Nat) : Option Int := if i = 0 then none else some (xs.getD (i - 1) z48).f0
theorem before_succ {xs : List S48} {i : Nat} {z : S48} (h : xs[i]? = some z) : before xs (i + 1) = some z.f0 := by
  unfold before
  rw [if_neg (by omega), Nat.add_sub_cancel, List.getD_eq_getElem?_getD, h]
  rfl
theorem arePoints_spec_l0 (xs : List S48) (hn : xs.length ≤ 9223372036854775807) : ∀ (zs : List S48) (i : Nat), xs.drop i = zs → Ev (fun k => spec_ArePoints.l0 k xs (i : Int)) (goodFrom (before xs i) zs && decide (xs.length ≤ 30)) := by
  intro zs
  induction zs with
  | nil =>
    intro i h
    have := at_end h
    refine Ev.step (fun k => by rw [spec_ArePoints.l0]) ?_
    exact ev_neg (by omega) (ev_eq (Ev.now _) (by simp [goodFrom]; omega))
  | cons z zs ih =>
    intro i h
    obtain ⟨hi, hz, h2, hl⟩ := at_drop h
    have hr : rd_T48 xs (i : Int) = z := getD_at hz
    have ih2 := ih (i + 1) h2
    rw [before_succ hz] at ih2
    refine Ev.step (fun k => by rw [spec_ArePoints.l0]) ?_
    refine ev_pos (by omega) (ev_pos (by omega) ?_)
    rw [hr, wrap_id (x := (i : Int) + 1) (by omega) (by omega)]
    refine ev_bind0 (l1In_eq _ _ _) (ev_ite (fun e0 => ?_) (fun e0 => ev_eq (Ev.now _) ?_))
    · refine ev_bind0 (l1In_eq _ _ _) (ev_ite (fun e1 => ?_) (fun e1 => ev_eq (Ev.now _) ?_))
      · refine ev_bind0 (l1In_eq _ _ _) (ev_ite (fun e2 => ?_) (fun e2 => ev_eq (Ev.now _) ?_))
        · simp only [decide_eq_true_eq] at e0 e1 e2
          have hok : okPoint z := ⟨e0, e1, e2⟩
          by_cases hi0 : i = 0
          · refine ev_neg (by omega) (ev_eq ih2 ?_)
            subst hi0
            simp [goodFrom, before, hok]
          · obtain ⟨q, hq⟩ : ∃ q, xs[i - 1]? = some q := ⟨xs[i - 1]'(by omega), List.getElem?_eq_getElem (by omega)⟩
            have hb : before xs i = some q.f0 := by
              have := before_succ hq
              rwa [Nat.sub_add_cancel (by omega)] at this
            have hrq : rd_T48 xs ((i : Int) - 1) = q := by
              rw [show (i : Int) - 1 = ((i - 1 : Nat) : Int) by omega]
              exact getD_at hq
            rw [wrap_id (x := (i : Int) - 1) (by omega) (by omega), hrq]
            refine ev_pos (by omega) (ev_pos (by omega) (ev_pos (by omega) (ev_ite (fun e => ev_eq (Ev.now _) ?_) (fun e => ev_eq ih2 ?_))))
            · simp [goodFrom, hb, show ¬ q.f0 < z.f0 by omega]
            · simp [goodFrom, hb, hok, show q.f0 < z.f0 by omega]
        · simp only [decide_eq_true_eq] at e2
          simp [goodFrom, okPoint, e2]
      · simp only [decide_eq_true_eq] at e1
        simp [goodFrom, okPoint, e1]
    · simp only [decide_eq_true_eq] at e0
      simp [goodFrom, okPoint, e0]
theorem arePoints_spec (xs : List S48) (hn : xs.length ≤ 9223372036854775807) : Ev (fun k => spec_ArePoints.f k xs) (arePoints xs) := by
  unfold spec_ArePoints.f
  exact arePoints_spec_l0 xs hn xs 0 rfl
theorem arePoints_impl_l0 (xs : List S48) (hn : xs.length ≤ 9223372036854775807) : ∀ (zs : List S48) (i : Nat), xs.drop i = zs → Ev (fun k => impl_ArePoints.l0 k xs xs xs.length (i : Int)) (goodFrom (before xs i) zs) := by
  intro zs
  induction zs with
  | nil =>
    intro i h
    have := at_end h
    refine Ev.step (fun k => by rw [impl_ArePoints.l0]) ?_
    exact ev_neg (by omega) (ev_eq (Ev.now _) (by simp [goodFrom]))
  | cons z zs ih =>
    intro i h
    obtain ⟨hi, hz, h2, hl⟩ := at_drop h
    have hr : rd_T48 xs (i : Int) = z := getD_at hz
    have ih2 := ih (i + 1) h2
    rw [before_succ hz] at ih2
    refine Ev.step (fun k => by rw [impl_ArePoints.l0]) ?_
    refine ev_pos (by omega) (ev_pos (by omega) (ev_pos (by omega) ?_))
    rw [hr, wrap_id (x := (i : Int) + 1) (by omega) (by omega)]
    refine ev_bind0 (inRange_eq _ _ _) (ev_ite (fun e0 => ?_) (fun e0 => ev_eq (Ev.now _) ?_))
    · simp only [decide_eq_true_eq] at e0
      by_cases hi0 : i = 0
      · subst hi0
        refine ev_neg (by omega) ?_
        refine ev_bind0 (inRange_eq _ _ _) (ev_ite (fun e1 => ?_) (fun e1 => ev_eq (Ev.now _) ?_))
        · refine ev_bind0 (inRange_eq _ _ _) (ev_ite (fun e2 => ev_eq ih2 ?_) (fun e2 => ev_eq (Ev.now _) ?_))
          · simp only [decide_eq_true_eq] at e1 e2
            have hok : okPoint z := ⟨e0, e1, e2⟩
            simp [goodFrom, before, hok]
          · simp only [decide_eq_true_eq] at e2
            simp [goodFrom, okPoint, e2]
        · simp only [decide_eq_true_eq] at e1
          simp [goodFrom, okPoint, e1]
      · obtain ⟨q, hq⟩ : ∃ q, xs[i - 1]? = some q := ⟨xs[i - 1]'(by omega), List.getElem?_eq_getElem (by omega)⟩
        have hb : before xs i = some q.f0 := by
          have := before_succ hq
          rwa [Nat.sub_add_cancel (by omega)] at this
        have hrq : rd_T48 xs ((i : Int) - 1) = q := by
          rw [show (i : Int) - 1 = ((i - 1 : Nat) : Int) by omega]
          exact getD_at hq
        rw [wrap_id (x := (i : Int) - 1) (by omega) (by omega), hrq]
        refine ev_pos (by omega) (ev_pos (by omega) (ev_pos (by omega) (ev_ite (fun e => ev_eq (Ev.now _) ?_) (fun e => ?_))))
        · simp [goodFrom, hb, show ¬ q.f0 < z.f0 by omega]
        · refine ev_bind0 (inRange_eq _ _ _) (ev_ite (fun e1 => ?_) (fun e1 => ev_eq (Ev.now _) ?_))
          · refine ev_bind0 (inRange_eq _ _ _) (ev_ite (fun e2 => ev_eq ih2 ?_) (fun e2 => ev_eq (Ev.now _) ?_))
            · simp only [decide_eq_true_eq] at e1 e2
              have hok : okPoint z := ⟨e0, e1, e2⟩
              simp [goodFrom, hb, hok, show q.f0 < z.f0 by omega]
            · simp only [decide_eq_true_eq] at e2
              simp [goodFrom, okPoint, e2]
          · simp only [decide_eq_true_eq] at e1
            simp [goodFrom, okPoint, e1]
    · simp only [decide_eq_true_eq] at e0
      simp [goodFrom, okPoint, e0]
theorem arePoints_impl (xs : List S48) (hn : xs.length ≤ 9223372036854775807) : Ev (fun k => impl_ArePoints.f k xs) (arePoints xs) := by
  unfold impl_ArePoints.f
  refine ev_ite (fun e => ev_eq (Ev.now _) ?_) (fun e => ev_eq (arePoints_impl_l0 xs hn xs 0 rfl) ?_)
  · simp [arePoints, show ¬ xs.length ≤ 30 by omega]
  · simp [arePoints, before, show xs.length ≤ 30 by omega]
def speaks (side : Int) (p : S48) : Bool := decide (p.f2 = 0 ∧ p.f1 ≠ side ∨ p.f2 = 2 ∧ p.f1 = side)
def speakers (side : Int) (l : List S48) : List Int := (l.filter (speaks side)).map fun p => p.f0
theorem speakers_length (side : Int) (l : List S48) : (speakers side l).length ≤ l.length := by
  unfold speakers
  rw [List.length_map]
  exact List.length_filter_le _ _
theorem speakers_cons (side : Int) (p : S48) (l : List S48) : speakers side (p :: l) = (if speaks side p then [p.f0] else []) ++ speakers side l := by
  unfold speakers
  rw [List.filter_cons]
  split <;> simp
def mustSpeak (l : List S48) (side : Int) : List Int := if arePoints l && decide (1 ≤ side ∧ side ≤ 2) then speakers side l else []
theorem mustSpeak_length (l : List S48) (side : Int) : (mustSpeak l side).length ≤ 30 := by
  unfold mustSpeak
  split
  · rename_i h
    have := speakers_length side l
    simp [arePoints] at h
    omega
  · simp
theorem mustSpeak_impl_l0 (xs : List S48) (side : Int) (hn : xs.length ≤ 1048576) : ∀ (zs : List S48) (i : Nat) (ys : List Int), xs.drop i = zs → ys.length + zs.length ≤ 1048576 → Ev (fun k => impl_MustSpeak.l0 k side ys xs xs.length (i : Int)) (ys ++ speakers side zs) := by
  intro zs
  induction zs with
  | nil =>
    intro i ys h _
    have := at_end h
    refine Ev.step (fun k => by rw [impl_MustSpeak.l0]) ?_
    exact ev_neg (by omega) (ev_eq (Ev.now _) (by simp [speakers]))
  | cons z zs ih =>
    intro i ys h hc
    obtain ⟨hi, hz, h2, hl⟩ := at_drop h
    rw [List.length_cons] at hc
    have hr : rd_T48 xs (i : Int) = z := getD_at hz
    have ih1 := ih (i + 1) (ys ++ [z.f0]) h2 (by first | (simp; done) | (simp; omega))
    have ih2 := ih (i + 1) ys h2 (by omega)
    refine Ev.step (fun k => by rw [impl_MustSpeak.l0]) ?_
    refine ev_pos (by omega) (ev_pos (by omega) (ev_pos (by omega) ?_))
    rw [hr, wrap_id (by omega) (by omega), speakers_cons]
    by_cases e0 : z.f2 = 0
    · by_cases e1 : z.f1 = side
      · have : speaks side z = false := by simp [speaks, e0, e1]
        rw [this]
        refine ev_pos e0 (ev_pos e1 (ev_neg (by omega) ?_))
        simpa using ih2
      · have : speaks side z = true := by simp [speaks, e0, e1]
        rw [this]
        refine ev_pos e0 (ev_neg e1 (ev_pos (by omega) ?_))
        simpa using ih1
    · by_cases e2 : z.f2 = 2
      · by_cases e1 : z.f1 = side
        · have : speaks side z = true := by simp [speaks, e2, e1]
          rw [this]
          refine ev_neg e0 (ev_pos e2 (ev_pos e1 (ev_pos (by omega) ?_)))
          simpa using ih1
        · have : speaks side z = false := by simp [speaks, e2, e1]
          rw [this]
          refine ev_neg e0 (ev_pos e2 (ev_neg e1 ?_))
          simpa using ih2
      · have : speaks side z = false := by simp [speaks, e0, e2]
        rw [this]
        refine ev_neg e0 (ev_neg e2 ?_)
        simpa using ih2
theorem mustSpeak_impl (xs : List S48) (side : Int) (hn : xs.length ≤ 1048576) : Ev (fun k => impl_MustSpeak.f k xs side) (mustSpeak xs side) := by
  unfold impl_MustSpeak.f
  refine ev_bind0 rfl (Ev.bind (arePoints_impl xs (by omega)) ?_)
  by_cases ha : arePoints xs = true
  · refine ev_pos ha (ev_bind0 (inRange_eq _ _ _) (Ev.step (fun k => by rw [impl_MustSpeak.j0]) ?_))
    by_cases hs : 1 ≤ side ∧ side ≤ 2
    · refine ev_neg (by simp [hs]) (ev_eq (mustSpeak_impl_l0 xs side hn xs 0 [] rfl (by simpa using hn)) ?_)
      unfold mustSpeak
      simp [ha, hs]
    · refine ev_pos (by simp only [Bool.not_eq_true', decide_eq_false_iff_not]; exact hs) (ev_eq (Ev.now _) ?_)
      unfold mustSpeak
      simp [hs]
  · refine ev_neg ha (Ev.step (fun k => by rw [impl_MustSpeak.j0]) ?_)
    refine ev_pos rfl (ev_eq (Ev.now _) ?_)
    unfold mustSpeak
    simp [ha]
def wonOfI (side : Int) (p : S48) : Int := if p.f1 = side then (if p.f2 = 1 ∨ p.f2 = 3 then 1 else if p.f2 = 4 then -1 else 0) else 0
def wonSumI (side : Int) : List S48 → Int
  | [] => 0
  | p :: r => wonOfI side p + wonSumI side r
theorem wonOfI_bound (side : Int) (p : S48) : -1 ≤ wonOfI side p ∧ wonOfI side p ≤ 1 := by
  unfold wonOfI
  split
  · split
    · omega
    · split <;> omega
  · omega
theorem wonSumI_bound (side : Int) (l : List S48) : -(l.length : Int) ≤ wonSumI side l ∧ wonSumI side l ≤ l.length := by
  induction l with
  | nil => simp [wonSumI]
  | cons p r ih =>
    have := wonOfI_bound side p
    simp only [wonSumI, List.length_cons]
    omega
theorem won_impl_l0 (xs : List S48) (side : Int) (hn : xs.length ≤ 9223372036854775800) : ∀ (zs : List S48) (i : Nat) (c : Int), xs.drop i = zs → -(i : Int) ≤ c → c ≤ i → Ev (fun k => impl_Won.l0 k side c xs xs.length (i : Int)) (c + wonSumI side zs) := by
  intro zs
  induction zs with
  | nil =>
    intro i c h _ _
    have := at_end h
    refine Ev.step (fun k => by rw [impl_Won.l0]) ?_
    exact ev_neg (by omega) (ev_eq (Ev.now _) (by simp [wonSumI]))
  | cons z zs ih =>
    intro i c h hc1 hc2
    obtain ⟨hi, hz, h2, hl⟩ := at_drop h
    have hr : rd_T48 xs (i : Int) = z := getD_at hz
    refine Ev.step (fun k => by rw [impl_Won.l0]) ?_
    refine ev_pos (by omega) (ev_pos (by omega) (ev_pos (by omega) ?_))
    rw [hr, wrap_id (by omega) (by omega)]
    by_cases e1 : z.f1 = side
    · refine ev_pos e1 ?_
      by_cases ea : z.f2 = 1
      · refine ev_pos ea (Ev.step (fun k => by rw [impl_Won.j1]) (ev_pos (by simp [ea]) ?_))
        rw [wrap_id (by omega) (by omega), wrap_id (by omega) (by omega)]
        refine ev_eq (ih (i + 1) (c + 1) h2 (by omega) (by omega)) ?_
        simp only [wonSumI, wonOfI, e1, ea, if_true, true_or]
        omega
      · refine ev_neg ea (Ev.step (fun k => by rw [impl_Won.j1]) ?_)
        by_cases eb : z.f2 = 3
        · refine ev_pos (by simp [eb]) ?_
          rw [wrap_id (by omega) (by omega), wrap_id (by omega) (by omega)]
          refine ev_eq (ih (i + 1) (c + 1) h2 (by omega) (by omega)) ?_
          simp only [wonSumI, wonOfI, e1, eb, if_true, or_true]
          omega
        · refine ev_neg (by simp [eb]) ?_
          by_cases ec : z.f2 = 4
          · refine ev_pos ec ?_
            rw [wrap_id (by omega) (by omega), wrap_id (by omega) (by omega)]
            refine ev_eq (ih (i + 1) (c - 1) h2 (by omega) (by omega)) ?_
            simp [wonSumI, wonOfI, e1, ec]
            omega
          · refine ev_neg ec ?_
            rw [wrap_id (by omega) (by omega)]
            refine ev_eq (ih (i + 1) c h2 (by omega) (by omega)) ?_
            simp [wonSumI, wonOfI, ea, eb, ec]
    · refine ev_neg e1 (ev_eq (ih (i + 1) c h2 (by omega) (by omega)) ?_)
      simp [wonSumI, wonOfI, e1]
theorem won_impl (xs : List S48) (side : Int) (hn : xs.length ≤ 9223372036854775800) : Ev (fun k => impl_Won.f k xs side) (wonSumI side xs) := by
  unfold impl_Won.f
  exact ev_eq (won_impl_l0 xs side hn xs 0 0 rfl (by omega) (by omega)) (by omega)
def legal (p : S48) (who st : Int) : Bool := decide (p.f2 = 0 ∧ who ≠ p.f1 ∧ 1 ≤ st ∧ st ≤ 2 ∨ p.f2 = 2 ∧ who = p.f1 ∧ 3 ≤ st ∧ st ≤ 4)
def replied (L : List S48) (i : Nat) (p : S48) (st : Int) : List S48 × Bool := (L.set i ⟨p.f0, p.f1, st⟩, true)
def replyR (L : List S48) (id who st : Int) : List S48 → Nat → List S48 × Bool
  | [], _ => (L, false)
  | z :: zs, i => if z.f0 = id ∧ legal z who st = true then replied L i z st else replyR L id who st zs (i + 1)
theorem reply_spec_l0 (L : List S48) (id who st : Int) (hn : L.length ≤ 1048576) (ha : arePoints L = true) (hw : 1 ≤ who ∧ who ≤ 2) : ∀ (zs : List S48) (i : Nat), L.drop i = zs → Ev (fun k => spec_Reply.l0 k L id who st L (i : Int)) (replyR L id who st zs i) := by
  intro zs
  induction zs with
  | nil =>
    intro i h
    have := at_end h
    refine Ev.step (fun k => by rw [spec_Reply.l0]) ?_
    refine ev_neg (by omega) (Ev.step (fun k => by rw [spec_Reply.j1]) ?_)
    exact ev_neg (by decide) (Ev.now _)
  | cons z zs ih =>
    intro i h
    obtain ⟨hlt, hz, h2, _⟩ := at_drop h
    have hr : rd_T48 L (i : Int) = z := getD_at hz
    refine Ev.step (fun k => by rw [spec_Reply.l0]) ?_
    refine ev_pos (by omega) (Ev.bind (arePoints_spec L (by omega)) (ev_pos ha (ev_bind0 (l1In_eq _ _ _) ?_)))
    rw [decide_eq_true hw]
    refine Ev.step (fun k => by rw [spec_Reply.j1]) ?_
    rw [hr, wrap_id (x := (i : Int) + 1) (by omega) (by omega), Int.toNat_natCast]
    have hnext : ¬ (z.f0 = id ∧ (z.f2 = 0 ∧ who ≠ z.f1 ∧ 1 ≤ st ∧ st ≤ 2 ∨ z.f2 = 2 ∧ who = z.f1 ∧ 3 ≤ st ∧ st ≤ 4)) → Ev (fun k => spec_Reply.l0 k L id who st L ((i : Int) + 1)) (replyR L id who st (z :: zs) i) := by
      intro hno
      refine ev_eq (ih (i + 1) h2) ?_
      unfold replyR
      rw [if_neg (fun h => hno ⟨h.1, of_decide_eq_true h.2⟩)]
      cases zs <;> rfl
    have hset : (z.f0 = id ∧ (z.f2 = 0 ∧ who ≠ z.f1 ∧ 1 ≤ st ∧ st ≤ 2 ∨ z.f2 = 2 ∧ who = z.f1 ∧ 3 ≤ st ∧ st ≤ 4)) → Ev (fun _ => some (L.set i (⟨z.f0, z.f1, st⟩ : S48), true)) (replyR L id who st (z :: zs) i) := by
      intro hyes
      refine ev_eq (Ev.now _) ?_
      unfold replyR
      rw [if_pos ⟨hyes.1, decide_eq_true hyes.2⟩]
      rfl
    refine ev_pos rfl (ev_pos (by omega) (ev_pos (by omega) ?_))
    refine ev_ite (fun e0 => ev_ite (fun ew => ev_ite (fun e2 => ?_) (fun e2 => ev_ite (fun _ => hnext (by omega)) (fun _ => hnext (by omega)))) (fun ew => ev_bind0 (l1In_eq _ _ _) (ev_ite (fun e2 => ?_) (fun e2 => ev_ite (fun eid => ev_ite (fun est => ev_pos (by omega) (hset ?_)) (fun est => hnext ?_)) (fun eid => hnext (by omega)))))) (fun e0 => ev_ite (fun e2 => ev_ite (fun ew => ev_bind0 (l1In_eq _ _ _) (ev_ite (fun eid => ev_ite (fun est => ev_pos (by omega) (hset ?_)) (fun est => hnext ?_)) (fun eid => hnext (by omega)))) (fun ew => ev_ite (fun _ => hnext (by omega)) (fun _ => hnext (by omega)))) (fun e2 => ev_ite (fun _ => hnext (by omega)) (fun _ => hnext (by omega))))
    · omega
    · omega
    · have := of_decide_eq_true est; omega
    · have : ¬ (1 ≤ st ∧ st ≤ 2) := fun h => est (decide_eq_true h)
      omega
    · have := of_decide_eq_true est; omega
    · have : ¬ (3 ≤ st ∧ st ≤ 4) := fun h => est (decide_eq_true h)
      omega
def replyV (L : List S48) (id who st : Int) : List S48 × Bool := if arePoints L && decide (1 ≤ who ∧ who ≤ 2) then replyR L id who st L 0 else (L, false)
theorem reply_spec (L : List S48) (id who st : Int) (hn : L.length ≤ 1048576) : Ev (fun k => spec_Reply.f k L id who st) (replyV L id who st) := by
  unfold spec_Reply.f
  refine ev_bind0 rfl ?_
  rw [List.nil_append]
  refine ev_pos (by first | (simp; done) | (simp; omega)) ?_
  unfold replyV
  have hj : Ev (fun k => spec_Reply.j1 k L id who st L 0 false) (L, false) := by
    refine Ev.step (fun k => by rw [spec_Reply.j1]) ?_
    exact ev_neg (by decide) (Ev.now _)
  have hbad : (arePoints L && decide (1 ≤ who ∧ who ≤ 2)) = false → Ev (fun k => spec_Reply.l0 k L id who st L 0) (L, false) := by
    intro hb
    refine Ev.step (fun k => by rw [spec_Reply.l0]) ?_
    refine ev_ite (fun _ => Ev.bind (arePoints_spec L (by omega)) (ev_ite (fun e => ev_bind0 (l1In_eq _ _ _) ?_) (fun _ => hj))) (fun _ => hj)
    rw [e, Bool.true_and] at hb
    rw [hb]
    exact hj
  cases hc : (arePoints L && decide (1 ≤ who ∧ who ≤ 2)) with
  | false => rw [if_neg (by decide)]; exact hbad hc
  | true =>
    rw [if_pos rfl]
    have h2 := Bool.and_eq_true_iff.1 hc
    exact reply_spec_l0 L id who st hn h2.1 (of_decide_eq_true h2.2) L 0 rfl
theorem replyR_length (L : List S48) (id who st : Int) : ∀ zs i, (replyR L id who st zs i).1.length = L.length := by
  intro zs
  induction zs with
  | nil => intro i; rfl
  | cons z zs ih =>
    intro i
    unfold replyR
    split
    · simp [replied]
    · exact ih (i + 1)
theorem replyV_length (L : List S48) (id who st : Int) : (replyV L id who st).1.length = L.length := by
  unfold replyV
  split
  · exact replyR_length L id who st L 0
  · rfl
/-- The place of the first point with an Id. -/
def ptAt (id : Int) : List S48 → Nat → Int
  | [], _ => -1
  | z :: zs, i => if z.f0 = id then i else ptAt id zs (i + 1)
theorem pointAt_l0 (L : List S48) (id : Int) (hn : L.length ≤ 1048576) : ∀ (zs : List S48) (i : Nat), L.drop i = zs → Ev (fun k => impl_pointAt.l0 k L id (i : Int)) (ptAt id zs i) := by
  intro zs
  induction zs with
  | nil =>
    intro i h
    have := at_end h
    refine Ev.step (fun k => by rw [impl_pointAt.l0]) ?_
    exact ev_neg (by omega) (Ev.now _)
  | cons z zs ih =>
    intro i h
    obtain ⟨hlt, hz, h2, _⟩ := at_drop h
    have hr : rd_T48 L (i : Int) = z := getD_at hz
    refine Ev.step (fun k => by rw [impl_pointAt.l0]) ?_
    rw [hr, wrap_id (by omega) (by omega)]
    unfold ptAt
    refine ev_pos (by omega) (ev_pos (by omega) (ev_ite (fun e => ev_eq (Ev.now _) ?_) (fun e => ev_eq (ih (i + 1) h2) ?_)))
    · rw [if_pos e]
    · rw [if_neg e]
      first | done | (cases zs <;> rfl)
theorem goodFrom_above : ∀ (zs : List S48) (x : Int), goodFrom (some x) zs = true → ∀ p ∈ zs, x < p.f0 := by
  intro zs
  induction zs with
  | nil => intro x _ p hp; exact absurd hp (by simp)
  | cons z zs ih =>
    intro x h p hp
    unfold goodFrom at h
    simp only [Bool.and_eq_true, decide_eq_true_eq] at h
    rcases List.mem_cons.1 hp with rfl | hp
    · exact h.1.2
    · have := ih z.f0 h.2 p hp
      omega
theorem replyR_none (L : List S48) (id who st : Int) : ∀ (zs : List S48) (i : Nat), (∀ p ∈ zs, p.f0 ≠ id) → replyR L id who st zs i = (L, false) := by
  intro zs
  induction zs with
  | nil => intro i _; rfl
  | cons z zs ih =>
    intro i h
    unfold replyR
    rw [if_neg (fun e => h z (by simp) e.1)]
    exact ih (i + 1) (fun p hp => h p (by simp [hp]))
/-- In good points the first one with the Id decides. -/
theorem replyR_first (L : List S48) (id who st : Int) : ∀ (zs : List S48) (i : Nat) (q : Option Int), L.drop i = zs → goodFrom q zs = true → (ptAt id zs i < 0 ∧ replyR L id who st zs i = (L, false)) ∨ ∃ (j : Nat) (p : S48), ptAt id zs i = j ∧ j < L.length ∧ L[j]? = some p ∧ okPoint p ∧ replyR L id who st zs i = if legal p who st = true then replied L j p st else (L, false) := by
  intro zs
  induction zs with
  | nil => intro i q _ _; exact .inl ⟨by show (-1 : Int) < 0; decide, rfl⟩
  | cons z zs ih =>
    intro i q h hg
    obtain ⟨hlt, hz, h2, _⟩ := at_drop h
    unfold goodFrom at hg
    simp only [Bool.and_eq_true, decide_eq_true_eq] at hg
    unfold ptAt replyR
    by_cases e : z.f0 = id
    · rw [if_pos e]
      refine .inr ⟨i, z, rfl, hlt, hz, hg.1.1, ?_⟩
      by_cases hl : legal z who st = true
      · rw [if_pos ⟨e, hl⟩, if_pos hl]
      · rw [if_neg (fun h => hl h.2), if_neg hl]
        refine replyR_none L id who st zs (i + 1) fun p hp => ?_
        have := goodFrom_above zs z.f0 hg.2 p hp
        omega
    · rw [if_neg e, if_neg (fun h => e h.1)]
      exact ih (i + 1) (some z.f0) h2 hg.2
theorem reply_impl (L : List S48) (id who st : Int) (hn : L.length ≤ 1048576) : Ev (fun k => impl_Reply.f k L id who st) (replyV L id who st) := by
  unfold impl_Reply.f
  have hcl : impl_Point_35.f L = some L := by
    unfold impl_Point_35.f
    rw [Option.bind_some, if_pos (by first | (simp; done) | (simp; omega)), List.nil_append]
  have hpt : Ev (fun k => impl_pointAt.f k L id) (ptAt id L 0) := by
    unfold impl_pointAt.f
    exact pointAt_l0 L id hn L 0 rfl
  have hno : ∀ x : Int, Ev (fun k => impl_Reply.j0 k L who st L x true) (L, false) := by
    intro x
    refine Ev.step (fun k => by rw [impl_Reply.j0]) ?_
    exact ev_pos rfl (Ev.now _)
  refine ev_bind0 hcl (Ev.bind hpt (Ev.bind (arePoints_impl L (by omega)) ?_))
  cases ha : arePoints L with
  | false =>
    refine ev_neg (by decide) (ev_eq (hno _) ?_)
    unfold replyV
    rw [ha]
    rfl
  | true =>
    refine ev_pos rfl ?_
    have hg : goodFrom none L = true := by
      unfold arePoints at ha
      exact (Bool.and_eq_true_iff.1 ha).1
    rcases replyR_first L id who st L 0 none rfl hg with ⟨h1, h2⟩ | ⟨j, p, h1, h2, h3, h4, h5⟩
    · rw [decide_eq_true h1]
      refine ev_eq (hno _) ?_
      unfold replyV
      split
      · exact h2.symm
      · rfl
    · rw [h1, decide_eq_false (show ¬ (j : Int) < 0 by omega)]
      have hr : rd_T48 L (j : Int) = p := getD_at h3
      obtain ⟨_, ⟨k1, k2⟩, _⟩ := h4
      have hw : wrap64 (3 - p.f1) = 3 - p.f1 := wrap_id (by omega) (by omega)
      have hV : replyV L id who st = if (p.f2 = 0 ∧ who = 3 - p.f1 ∧ 1 ≤ st ∧ st ≤ 2 ∨ p.f2 = 2 ∧ who = p.f1 ∧ 3 ≤ st ∧ st ≤ 4) then replied L j p st else (L, false) := by
        unfold replyV
        rw [ha, Bool.true_and, h5]
        by_cases hwho : 1 ≤ who ∧ who ≤ 2
        · rw [if_pos (decide_eq_true hwho)]
          by_cases hl : legal p who st = true
          · have hl2 := of_decide_eq_true hl
            rw [if_pos hl, if_pos (by omega)]
          · rw [if_neg hl, if_neg (fun h => hl (decide_eq_true (by omega)))]
        · rw [if_neg (fun h => hwho (of_decide_eq_true h)), if_neg (by omega)]
      have hj1 : ∀ b : Bool, Ev (fun k => impl_Reply.j1 k who st L (j : Int) b p.f0 p.f1 p.f2) (if b = true ∨ (p.f2 = 2 ∧ who = p.f1 ∧ (st = 3 ∨ st = 4)) then replied L j p st else (L, false)) := by
        intro b
        refine Ev.step (fun k => by rw [impl_Reply.j1]) ?_
        rw [hr, Int.toNat_natCast]
        refine ev_ite (fun e => ev_pos (by omega) (ev_pos (by omega) (ev_eq (Ev.now _) ?_))) (fun e => ev_ite (fun e2 => ev_ite (fun ew => ev_ite (fun e3 => ev_pos (by omega) (ev_pos (by omega) (ev_eq (Ev.now _) ?_))) (fun e3 => ev_ite (fun e4 => ev_pos (by omega) (ev_pos (by omega) (ev_eq (Ev.now _) ?_))) (fun e4 => ev_eq (Ev.now _) ?_))) (fun ew => ev_eq (Ev.now _) ?_)) (fun e2 => ev_eq (Ev.now _) ?_))
        · rw [if_pos (.inl e)]; rfl
        · rw [if_pos (.inr ⟨e2, ew, .inl e3⟩)]; rfl
        · rw [if_pos (.inr ⟨e2, ew, .inr e4⟩)]; rfl
        · rw [if_neg (by rintro (h | ⟨_, _, h⟩); exact e h; omega)]
        · rw [if_neg (by rintro (h | ⟨_, h, _⟩); exact e h; exact ew h)]
        · rw [if_neg (by rintro (h | ⟨h, _⟩); exact e h; exact e2 h)]
      rw [hV]
      refine Ev.step (fun k => by rw [impl_Reply.j0]) ?_
      rw [hr, hw]
      have hsame : ∀ (P Q : Prop) [Decidable P] [Decidable Q], (P ↔ Q) → (if P then replied L j p st else (L, false)) = if Q then replied L j p st else (L, false) := by
        intro P Q _ _ h
        by_cases hp : P
        · rw [if_pos hp, if_pos (h.1 hp)]
        · rw [if_neg hp, if_neg (fun q => hp (h.2 q))]
      refine ev_neg (by decide) (ev_pos (by omega) (ev_pos (by omega) ?_))
      refine ev_ite (fun e0 => ev_ite (fun ew => ev_ite (fun e1 => ev_eq (hj1 true) (hsame _ _ ?_)) (fun e1 => ev_eq (hj1 (st == 2)) (hsame _ _ ?_))) (fun ew => ev_eq (hj1 false) (hsame _ _ ?_))) (fun e0 => ev_eq (hj1 false) (hsame _ _ ?_))
      · simp only [true_or, true_iff]; omega
      · rw [beq_iff_eq]; omega
      · simp only [Bool.false_eq_true, false_or]; omega
      · simp only [Bool.false_eq_true, false_or]; omega

/-- Where a point with this number goes. -/
def posOf (id : Int) : List S48 → Nat
  | [] => 0
  | p :: r => if p.f0 < id then posOf id r + 1 else 0
def raiseAt (L : List S48) (id who : Int) (j : Nat) : List S48 × Bool := if arePoints (L.take j ++ [(⟨id, who, 0⟩ : S48)] ++ L.drop j) = true then (L.take j ++ [(⟨id, who, 0⟩ : S48)] ++ L.drop j, true) else (L, false)
def raiseV (L : List S48) (id who : Int) : List S48 × Bool := raiseAt L id who (posOf id L)
theorem raise_spec_l0 (L : List S48) (id who : Int) (hn : L.length ≤ 1048576) : ∀ (zs : List S48) (i : Nat), L.drop i = zs → i ≤ L.length → Ev (fun k => spec_Raise.l0 k L id who (i : Int)) (raiseAt L id who (i + posOf id zs)) := by
  have hlen : ∀ j, j ≤ L.length → (L.take j).length = j := fun j hj => by rw [List.length_take]; omega
  have fin : ∀ j : Nat, j ≤ L.length → Ev (fun k => (spec_ArePoints.f k (([] : List S48) ++ L.take j ++ [(⟨id, who, 0⟩ : S48)] ++ L.drop j)).bind fun t => if t = true then some (([] : List S48) ++ L.take j ++ [(⟨id, who, 0⟩ : S48)] ++ L.drop j, true) else (some (([] : List S48) : List S48)).bind fun y => if y.length + L.length < 5864062014805 then some (y ++ L, false) else none) (raiseAt L id who j) := by
    intro j hj
    rw [List.nil_append]
    unfold raiseAt
    refine Ev.bind (arePoints_spec _ (by simp only [List.length_append, List.length_take, List.length_drop, List.length_singleton]; omega)) (ev_ite (fun e => ev_eq (Ev.now _) (by rw [if_pos e])) (fun e => ev_bind0 rfl (ev_pos (by rw [List.length_nil]; omega) (ev_eq (Ev.now _) (by rw [if_neg e, List.nil_append])))))
  intro zs
  induction zs with
  | nil =>
    intro i h hi
    have := at_end h
    refine Ev.step (fun k => by rw [spec_Raise.l0]) ?_
    refine ev_neg (by omega) (ev_bind0 rfl (ev_pos (by omega) (ev_pos (by omega) (ev_bind0 rfl (ev_pos ?_ (ev_bind0 rfl (ev_bind0 rfl (ev_pos ?_ (ev_bind0 rfl (ev_bind0 rfl (ev_pos ?_ (ev_bind0 rfl ?_))))))))))))
    · simp only [List.length_nil, List.length_take, Int.toNat_natCast]; omega
    · simp only [List.length_nil, List.length_append, List.length_take, List.length_singleton, Int.toNat_natCast]; omega
    · simp only [List.length_nil, List.length_append, List.length_take, List.length_drop, List.length_singleton, Int.toNat_natCast]; omega
    · rw [Int.toNat_natCast]
      exact fin i hi
  | cons z zs ih =>
    intro i h hi
    obtain ⟨hlt, hz, h2, _⟩ := at_drop h
    have hr : rd_T48 L (i : Int) = z := getD_at hz
    refine Ev.step (fun k => by rw [spec_Raise.l0]) ?_
    rw [hr, wrap_id (by omega) (by omega)]
    unfold posOf
    refine ev_pos (by omega) (ev_pos (by omega) (ev_ite (fun e => ?_) (fun e => ?_)))
    · rw [if_pos e]
      refine ev_eq (ih (i + 1) h2 (by omega)) ?_
      rw [show i + 1 + posOf id zs = i + (posOf id zs + 1) by omega]
    · rw [if_neg e, Nat.add_zero]
      refine ev_bind0 rfl (ev_pos (by omega) (ev_bind0 rfl (ev_pos ?_ (ev_bind0 rfl (ev_bind0 rfl (ev_pos ?_ (ev_bind0 rfl (ev_bind0 rfl (ev_pos ?_ (ev_bind0 rfl ?_))))))))))
      · simp only [List.length_nil, List.length_take, Int.toNat_natCast]; omega
      · simp only [List.length_nil, List.length_append, List.length_take, List.length_singleton, Int.toNat_natCast]; omega
      · simp only [List.length_nil, List.length_append, List.length_take, List.length_drop, List.length_singleton, Int.toNat_natCast]; omega
      · rw [Int.toNat_natCast]
        exact fin i hi
theorem raise_spec (L : List S48) (id who : Int) (hn : L.length ≤ 1048576) : Ev (fun k => spec_Raise.f k L id who) (raiseV L id who) := by
  unfold spec_Raise.f raiseV
  refine ev_eq (raise_spec_l0 L id who hn L 0 rfl (by omega)) ?_
  rw [Nat.zero_add]
theorem goodFrom_apart : ∀ (zs : List S48) (q : Option Int), goodFrom q zs = true → zs.Pairwise (fun a b => a.f0 < b.f0) := by
  intro zs
  induction zs with
  | nil => intro q _; exact List.Pairwise.nil
  | cons z zs ih =>
    intro q h
    have hz : goodFrom (some z.f0) zs = true := by
      unfold goodFrom at h
      simp only [Bool.and_eq_true] at h
      exact h.2
    exact List.pairwise_cons.2 ⟨fun p hp => goodFrom_above zs z.f0 hz p hp, ih _ hz⟩
theorem ptAt_some (id : Int) : ∀ (zs : List S48) (i : Nat), 0 ≤ ptAt id zs i → ∃ p ∈ zs, p.f0 = id := by
  intro zs
  induction zs with
  | nil => intro i h; unfold ptAt at h; omega
  | cons z zs ih =>
    intro i h
    unfold ptAt at h
    split at h
    · rename_i e
      exact ⟨z, List.mem_cons_self, e⟩
    · obtain ⟨p, hp, e⟩ := ih (i + 1) h
      exact ⟨p, List.mem_cons_of_mem _ hp, e⟩
theorem raise_double (L : List S48) (id who : Int) (j : Nat) (h : ∃ p ∈ L, p.f0 = id) : raiseAt L id who j = (L, false) := by
  unfold raiseAt
  rw [if_neg]
  intro ha
  obtain ⟨p, hp, e⟩ := h
  unfold arePoints at ha
  rw [Bool.and_eq_true] at ha
  have hw := goodFrom_apart _ _ ha.1
  rw [List.append_assoc, List.pairwise_append] at hw
  obtain ⟨_, h2, h3⟩ := hw
  rw [List.singleton_append, List.pairwise_cons] at h2
  rw [← List.take_append_drop j L, List.mem_append] at hp
  rcases hp with hp | hp
  · have := h3 p hp ⟨id, who, 0⟩ (by simp)
    simp only at this
    omega
  · have := h2.1 p hp
    simp only at this
    omega
theorem clonePts_eq (L : List S48) (hn : L.length ≤ 1048576) : impl_Point_35.f L = some L := by
  unfold impl_Point_35.f
  rw [Option.bind_some, if_pos (by rw [List.length_nil]; omega), List.nil_append]
theorem raise_impl_l0 (L : List S48) (id who : Int) (hn : L.length ≤ 1048576) : ∀ (zs : List S48) (i : Nat), L.drop i = zs → i ≤ L.length → Ev (fun k => impl_Raise.l0 k L id who L (i : Int)) (raiseAt L id who (i + posOf id zs)) := by
  have fin : ∀ j : Nat, j ≤ L.length → Ev (fun k => impl_Raise.j1 k L id who L (j : Int)) (raiseAt L id who j) := by
    intro j hj
    refine Ev.step (fun k => by rw [impl_Raise.j1]) ?_
    refine ev_bind0 (a := L.take j ++ [(⟨id, who, 0⟩ : S48)] ++ L.drop j) ?_ ?_
    · unfold impl_Point_37.f
      rw [if_pos ⟨by omega, by omega, rfl, by omega⟩, Int.toNat_natCast]
    · unfold raiseAt
      exact Ev.bind (arePoints_impl _ (by simp only [List.length_append, List.length_take, List.length_drop, List.length_singleton]; omega)) (ev_ite (fun e => ev_eq (Ev.now _) (by rw [if_pos e])) (fun e => ev_bind0 (clonePts_eq L hn) (ev_eq (Ev.now _) (by rw [if_neg e]))))
  intro zs
  induction zs with
  | nil =>
    intro i h hi
    have := at_end h
    refine Ev.step (fun k => by rw [impl_Raise.l0]) ?_
    exact ev_neg (by omega) (fin i hi)
  | cons z zs ih =>
    intro i h hi
    obtain ⟨hlt, hz, h2, _⟩ := at_drop h
    have hr : rd_T48 L (i : Int) = z := getD_at hz
    refine Ev.step (fun k => by rw [impl_Raise.l0]) ?_
    rw [hr, wrap_id (by omega) (by omega)]
    unfold posOf
    refine ev_pos (by omega) (ev_pos (by omega) (ev_ite (fun e => ?_) (fun e => ?_)))
    · rw [if_pos e]
      refine ev_eq (ih (i + 1) h2 (by omega)) ?_
      rw [show i + 1 + posOf id zs = i + (posOf id zs + 1) by omega]
    · rw [if_neg e, Nat.add_zero]
      exact fin i hi
theorem raise_impl (L : List S48) (id who : Int) (hn : L.length ≤ 1048576) : Ev (fun k => impl_Raise.f k L id who) (raiseV L id who) := by
  unfold impl_Raise.f
  have hp : Ev (fun k => impl_pointAt.f k L id) (ptAt id L 0) := by
    unfold impl_pointAt.f
    exact pointAt_l0 L id hn L 0 rfl
  refine ev_bind0 (clonePts_eq L hn) (Ev.bind hp (ev_ite (fun e => ev_eq (Ev.now _) ?_) (fun e => ?_)))
  · exact (raise_double L id who _ (ptAt_some id L 0 e)).symm
  · refine ev_eq (raise_impl_l0 L id who hn L 0 rfl (by omega)) ?_
    rw [Nat.zero_add]
    rfl

theorem containsL_l0 (xs : List Int) (x : Int) (hn : xs.length ≤ 9223372036854775807) : ∀ (zs : List Int) (i : Nat), xs.drop i = zs → Ev (fun k => laws_contains.l0 k xs x (i : Int)) (decide (x ∈ zs)) := by
  intro zs
  induction zs with
  | nil =>
    intro i h
    have := at_end h
    refine Ev.step (fun k => by rw [laws_contains.l0]) ?_
    exact ev_neg (by omega) (ev_eq (Ev.now _) (by simp))
  | cons z zs ih =>
    intro i h
    obtain ⟨hlt, hz, h2, _⟩ := at_drop h
    refine Ev.step (fun k => by rw [laws_contains.l0]) ?_
    rw [wrap_id (by omega) (by omega), rd_get hz]
    refine ev_pos (by omega) (ev_pos (by omega) (ev_ite (fun e => ev_eq (Ev.now _) (by simp [e])) (fun e => ev_eq (ih (i + 1) h2) ?_)))
    have : x ≠ z := fun h => e h.symm
    simp [this]
theorem containsL_ev (xs : List Int) (x : Int) (hn : xs.length ≤ 9223372036854775807) : Ev (fun k => laws_contains.f k xs x) (decide (x ∈ xs)) := by
  unfold laws_contains.f
  exact containsL_l0 xs x hn xs 0 rfl
theorem raiseV_length1 (L : List S48) (id who : Int) : (raiseV L id who).1.length ≤ L.length + 1 := by
  unfold raiseV raiseAt
  split
  · simp only [List.length_append, List.length_take, List.length_drop, List.length_singleton]
    omega
  · dsimp only
    omega
theorem l13Draw_l0 (b : List Int) (hb : b.length ≤ 1048576) : ∀ (d : Nat) (xs : List S48) (i h : Int), xs.length + d ≤ 9 → Cur b i → ∃ r i2 h2, Ev (fun k => spec_l13Draw.l0 k xs (d : Int) b i h) (r, i2, h2) ∧ r.length ≤ 9 ∧ Cur b i2 := by
  intro d
  induction d with
  | zero =>
    intro xs i h hl hc
    refine ⟨xs, i, h, ?_, by omega, hc⟩
    refine Ev.step (fun k => by rw [spec_l13Draw.l0]) ?_
    exact ev_neg (by omega) (Ev.now _)
  | succ d ih =>
    intro xs i h hl hc
    obtain ⟨q1, i1, h1, e1, _, _, _, hc1⟩ := l1Below_ok b i h 6 hc hb
    obtain ⟨q2, i2, h2, e2, _, _, _, hc2⟩ := l1Below_ok b i1 h1 2 hc1 hb
    obtain ⟨q3, i3, h3, e3, _, _, _, hc3⟩ := l1Below_ok b i2 h2 6 hc2 hb
    obtain ⟨q4, i4, h4, e4, _, _, _, hc4⟩ := l1Below_ok b i3 h3 2 hc3 hb
    obtain ⟨q5, i5, h5, e5, _, _, _, hc5⟩ := l1Below_ok b i4 h4 4 hc4 hb
    have hr := raiseV_length1 xs (wrap64 (1 + q1)) (wrap64 (1 + q2))
    have er := raise_spec xs (wrap64 (1 + q1)) (wrap64 (1 + q2)) (by omega)
    generalize raiseV xs (wrap64 (1 + q1)) (wrap64 (1 + q2)) = R at hr er
    have hp := replyV_length R.1 (wrap64 (1 + q3)) (wrap64 (1 + q4)) (wrap64 (1 + q5))
    have ep := reply_spec R.1 (wrap64 (1 + q3)) (wrap64 (1 + q4)) (wrap64 (1 + q5)) (by omega)
    generalize replyV R.1 (wrap64 (1 + q3)) (wrap64 (1 + q4)) (wrap64 (1 + q5)) = Q at hp ep
    obtain ⟨r, i6, h6, e6, hl6, hc6⟩ := ih Q.1 i5 h5 (by omega) hc5
    refine ⟨r, i6, h6, ?_, hl6, hc6⟩
    refine Ev.step (fun k => by rw [spec_l13Draw.l0]) ?_
    rw [wrap_id (x := ((d + 1 : Nat) : Int) - 1) (by omega) (by omega), show ((d + 1 : Nat) : Int) - 1 = (d : Int) by omega]
    exact ev_pos (by omega) (ev_bind0 e1 (ev_bind0 e2 (Ev.bind er (ev_bind0 e3 (ev_bind0 e4 (ev_bind0 e5 (Ev.bind ep e6)))))))
theorem l13Any_ok (b : List Int) (hb : b.length ≤ 1048576) (i h : Int) (hc : Cur b i) : ∃ r i2 h2, Ev (fun k => spec_l13Any.f k b i h) (r, i2, h2) ∧ r.length ≤ 9 ∧ Cur b i2 := by
  obtain ⟨q, i1, h1, e1, h0, hlt, _, hc1⟩ := l1Below_ok b i h 10 hc hb
  have := hlt (by omega)
  obtain ⟨r, i2, h2, e2, hl2, hc2⟩ := l13Draw_l0 b hb q.toNat [] i1 h1 (by rw [List.length_nil]; omega) hc1
  rw [show (q.toNat : Int) = q by omega] at e2
  have eD : Ev (fun k => spec_l13Draw.f k b i h) (r, i2, h2) := by
    unfold spec_l13Draw.f
    exact ev_bind0 e1 e2
  unfold spec_l13Any.f
  by_cases hp : (r.length : Int) > 0
  · obtain ⟨j, i3, h3, e3, hj0, hjlt, _, hc3⟩ := l1Below_ok b i2 h2 (r.length : Int) hc2 hb
    have hj := hjlt (by omega)
    obtain ⟨t, i4, h4, e4, _, _, _, hc4⟩ := l1Below_ok b i3 h3 12 hc3 hb
    by_cases t0 : t = 0
    · obtain ⟨x, i5, h5, e5, _, hc5⟩ := l1Int_ok b i4 h4 [0, 1, 99, 100] hc4 hb (by decide)
      exact ⟨_, i5, h5, Ev.bind eD (ev_pos hp (ev_bind0 e3 (ev_bind0 e4 (ev_pos t0 (ev_bind0 e5 (ev_pos hj0 (ev_pos hj (Ev.now _)))))))), by rw [List.length_set]; exact hl2, hc5⟩
    · by_cases t1 : t = 1
      · obtain ⟨x, i5, h5, e5, _, hc5⟩ := l1Int_ok b i4 h4 [0, 2, 3] hc4 hb (by decide)
        exact ⟨_, i5, h5, Ev.bind eD (ev_pos hp (ev_bind0 e3 (ev_bind0 e4 (ev_neg t0 (ev_pos t1 (ev_bind0 e5 (ev_pos hj0 (ev_pos hj (Ev.now _))))))))), by rw [List.length_set]; exact hl2, hc5⟩
      · by_cases t2 : t = 2
        · obtain ⟨x, i5, h5, e5, _, hc5⟩ := l1Int_ok b i4 h4 [(-1), 4, 5] hc4 hb (by decide)
          exact ⟨_, i5, h5, Ev.bind eD (ev_pos hp (ev_bind0 e3 (ev_bind0 e4 (ev_neg t0 (ev_neg t1 (ev_pos t2 (ev_bind0 e5 (ev_pos hj0 (ev_pos hj (Ev.now _)))))))))), by rw [List.length_set]; exact hl2, hc5⟩
        · exact ⟨r, i4, h4, Ev.bind eD (ev_pos hp (ev_bind0 e3 (ev_bind0 e4 (ev_neg t0 (ev_neg t1 (ev_neg t2 (Ev.now _))))))), hl2, hc4⟩
  · exact ⟨r, i2, h2, Ev.bind eD (ev_neg hp (Ev.now _)), hl2, hc2⟩
theorem drawRaise_ok (b : List Int) (hb : b.length ≤ 1048576) : ∃ l k w, Ev (fun n => spec_DrawRaise.f n b) (l, k, w) ∧ l.length ≤ 9 := by
  obtain ⟨h, e0, hc⟩ := l1New_ok b hb
  obtain ⟨l, i1, h1, e1, hl, hc1⟩ := l13Any_ok b hb 0 h hc
  obtain ⟨q2, i2, h2, e2, _, _, _, hc2⟩ := l1Below_ok b i1 h1 8 hc1 hb
  obtain ⟨q3, i3, h3, e3, _, _, _, hc3⟩ := l1Below_ok b i2 h2 8 hc2 hb
  obtain ⟨k, i4, h4, e4, _, hc4⟩ := l1Int_ok b i3 h3 [q2, q3, 99, 100] hc3 hb (by simp)
  obtain ⟨w, i5, h5, e5, _, _, _, hc5⟩ := l1Below_ok b i4 h4 4 hc4 hb
  unfold spec_DrawRaise.f
  exact ⟨l, k, w, Ev.bind e0 (Ev.bind e1 (ev_bind0 e2 (ev_bind0 e3 (ev_bind0 e4 (ev_bind0 e5 (Ev.now _)))))), hl⟩
theorem drawReply_ok (b : List Int) (hb : b.length ≤ 1048576) : ∃ l k w s, Ev (fun n => spec_DrawReply.f n b) (l, k, w, s) ∧ l.length ≤ 9 := by
  obtain ⟨l, k, w, eD, hl⟩ := drawRaise_ok b hb
  obtain ⟨h, e0, hc⟩ := l1New_ok b hb
  obtain ⟨s, i2, h2, e2, _, _, _, hc2⟩ := l1Below_ok b 0 h 6 hc hb
  unfold spec_DrawReply.f
  exact ⟨l, k, w, s, Ev.bind eD (Ev.bind e0 (ev_bind0 e2 (Ev.now _))), hl⟩
theorem drawIsSettled_ok (b : List Int) (hb : b.length ≤ 1048576) : ∃ l, Ev (fun n => spec_DrawIsSettled.f n b) l ∧ l.length ≤ 9 := by
  obtain ⟨h, e0, hc⟩ := l1New_ok b hb
  obtain ⟨l, i1, h1, e1, hl, hc1⟩ := l13Any_ok b hb 0 h hc
  unfold spec_DrawIsSettled.f spec_DrawArePoints.f
  exact ⟨l, Ev.bind (Ev.bind e0 (Ev.bind e1 (Ev.now _))) (Ev.now _), hl⟩
theorem drawWon_ok (b : List Int) (hb : b.length ≤ 1048576) : ∃ l s, Ev (fun n => spec_DrawWon.f n b) (l, s) ∧ l.length ≤ 9 := by
  obtain ⟨h, e0, hc⟩ := l1New_ok b hb
  obtain ⟨l, i1, h1, e1, hl, hc1⟩ := l13Any_ok b hb 0 h hc
  obtain ⟨s, i2, h2, e2, _, _, _, hc2⟩ := l1Below_ok b i1 h1 4 hc1 hb
  unfold spec_DrawWon.f spec_DrawMustSpeak.f
  exact ⟨l, s, Ev.bind (Ev.bind e0 (Ev.bind e1 (ev_bind0 e2 (Ev.now _)))) (Ev.now _), hl⟩
theorem goodFrom_ok : ∀ (zs : List S48) (q : Option Int), goodFrom q zs = true → ∀ p ∈ zs, okPoint p := by
  intro zs
  induction zs with
  | nil => intro q _ p hp; exact absurd hp (by simp)
  | cons z zs ih =>
    intro q h p hp
    unfold goodFrom at h
    simp only [Bool.and_eq_true, decide_eq_true_eq] at h
    rcases List.mem_cons.1 hp with rfl | hp
    · exact h.1.1
    · exact ih _ h.2 p hp
theorem goodFrom_set (st : Int) (hs : 0 ≤ st ∧ st ≤ 4) : ∀ (zs : List S48) (j : Nat) (q : Option Int) (p : S48), zs[j]? = some p → goodFrom q zs = true → goodFrom q (zs.set j ⟨p.f0, p.f1, st⟩) = true := by
  intro zs
  induction zs with
  | nil => intro j q p hp; simp at hp
  | cons z zs ih =>
    intro j q p hp h
    unfold goodFrom at h
    rw [Bool.and_eq_true, Bool.and_eq_true, decide_eq_true_eq] at h
    cases j with
    | zero =>
      simp only [List.getElem?_cons_zero, Option.some.injEq] at hp
      subst hp
      rw [List.set_cons_zero]
      unfold goodFrom
      rw [Bool.and_eq_true, Bool.and_eq_true, decide_eq_true_eq]
      exact ⟨⟨⟨h.1.1.1, h.1.1.2.1, hs⟩, h.1.2⟩, h.2⟩
    | succ j =>
      rw [List.getElem?_cons_succ] at hp
      rw [List.set_cons_succ]
      unfold goodFrom
      rw [Bool.and_eq_true, Bool.and_eq_true, decide_eq_true_eq]
      exact ⟨h.1, ih j _ p hp h.2⟩
theorem replyR_done (L : List S48) (id who st : Int) : ∀ (zs : List S48) (i : Nat), L.drop i = zs → (replyR L id who st zs i).2 = true → ∃ (j : Nat) (p : S48), L[j]? = some p ∧ p.f0 = id ∧ legal p who st = true ∧ (replyR L id who st zs i).1 = L.set j ⟨p.f0, p.f1, st⟩ := by
  intro zs
  induction zs with
  | nil => intro i _ h; exact absurd h (by simp [replyR])
  | cons z zs ih =>
    intro i h hr
    obtain ⟨_, hz, h2, _⟩ := at_drop h
    unfold replyR at hr ⊢
    by_cases e : z.f0 = id ∧ legal z who st = true
    · rw [if_pos e]
      exact ⟨i, z, hz, e.1, e.2, rfl⟩
    · rw [if_neg e] at hr ⊢
      exact ih (i + 1) h2 hr
theorem mem_speakers (side : Int) (l : List S48) (p : S48) (hp : p ∈ l) (hs : speaks side p = true) : p.f0 ∈ speakers side l := by
  unfold speakers
  exact List.mem_map_of_mem (List.mem_filter.2 ⟨hp, hs⟩)
theorem reply_fact (L : List S48) (id who st : Int) (h : (replyV L id who st).2 = true) : arePoints (replyV L id who st).1 = true ∧ id ∈ mustSpeak L who := by
  unfold replyV at h ⊢
  split at h
  · rename_i hc
    rw [if_pos hc]
    obtain ⟨j, p, hp, hid, hl, he⟩ := replyR_done L id who st L 0 rfl h
    rw [he]
    unfold mustSpeak
    rw [if_pos hc]
    have hl2 := of_decide_eq_true hl
    rw [Bool.and_eq_true] at hc
    have ha := hc.1
    unfold arePoints at ha ⊢
    rw [Bool.and_eq_true] at ha
    refine ⟨?_, ?_⟩
    · rw [Bool.and_eq_true, List.length_set]
      exact ⟨goodFrom_set st (by omega) L j none p hp ha.1, ha.2⟩
    · rw [← hid]
      refine mem_speakers who L p (List.mem_of_getElem? hp) ?_
      unfold speaks
      refine decide_eq_true ?_
      omega
  · simp at h
theorem raise_fact (L : List S48) (id who : Int) : ((raiseV L id who).2 = true → arePoints (raiseV L id who).1 = true ∧ (raiseV L id who).1.length = L.length + 1 ∧ (1 ≤ who ∧ who ≤ 2) ∧ id ∈ mustSpeak (raiseV L id who).1 (3 - who)) ∧ ((raiseV L id who).2 = false → (raiseV L id who).1 = L) := by
  unfold raiseV raiseAt
  by_cases h : arePoints (L.take (posOf id L) ++ [(⟨id, who, 0⟩ : S48)] ++ L.drop (posOf id L)) = true
  · rw [if_pos h]
    refine ⟨fun _ => ?_, fun hf => absurd hf (by simp)⟩
    dsimp only
    have hg := h
    unfold arePoints at hg
    rw [Bool.and_eq_true] at hg
    have hm : (⟨id, who, 0⟩ : S48) ∈ L.take (posOf id L) ++ [(⟨id, who, 0⟩ : S48)] ++ L.drop (posOf id L) := by simp
    obtain ⟨_, ⟨k1, k2⟩, _⟩ := goodFrom_ok _ _ hg.1 _ hm
    dsimp only at k1 k2
    refine ⟨h, by simp only [List.length_append, List.length_take, List.length_drop, List.length_singleton]; omega, ⟨k1, k2⟩, ?_⟩
    unfold mustSpeak
    rw [h, Bool.true_and, if_pos (decide_eq_true (by omega))]
    refine mem_speakers (3 - who) _ ⟨id, who, 0⟩ hm ?_
    unfold speaks
    refine decide_eq_true (.inl ⟨rfl, ?_⟩)
    dsimp only
    omega
  · rw [if_neg h]
    exact ⟨fun hf => absurd hf (by simp), fun _ => rfl⟩
theorem settled_impl2 (xs : List S48) (hn : xs.length ≤ 1048576) : ∃ r : Bool, Ev (fun k => impl_IsSettled.f k xs) r ∧ (r = true → ∀ p ∈ xs, p.f2 ≠ 0 ∧ p.f2 ≠ 2) := by
  unfold impl_IsSettled.f
  by_cases ha : arePoints xs = true
  · by_cases h1 : mustSpeak xs 1 = []
    · refine ⟨((mustSpeak xs 2).length : Int) == 0, Ev.bind (arePoints_impl xs (by omega)) (ev_pos ha (Ev.bind (mustSpeak_impl xs 1 hn) (ev_pos (by rw [h1]; rfl) (Ev.bind (mustSpeak_impl xs 2 hn) (Ev.now _))))), fun h2 p hp => ?_⟩
      have h2 : mustSpeak xs 2 = [] := by
        rw [beq_iff_eq] at h2
        exact List.eq_nil_of_length_eq_zero (by omega)
      unfold mustSpeak at h1 h2
      rw [ha, Bool.true_and, if_pos (by decide)] at h1 h2
      have hg := ha
      unfold arePoints at hg
      rw [Bool.and_eq_true] at hg
      obtain ⟨_, ⟨k1, k2⟩, _⟩ := goodFrom_ok _ _ hg.1 p hp
      have a1 : ¬ speaks 1 p = true := fun hs => by
        have := mem_speakers 1 xs p hp hs
        rw [h1] at this
        simp at this
      have a2 : ¬ speaks 2 p = true := fun hs => by
        have := mem_speakers 2 xs p hp hs
        rw [h2] at this
        simp at this
      unfold speaks at a1 a2
      rw [decide_eq_true_eq] at a1 a2
      omega
    · have hne : ¬ ((mustSpeak xs 1).length : Int) = 0 := fun h => h1 (List.eq_nil_of_length_eq_zero (by omega))
      exact ⟨false, Ev.bind (arePoints_impl xs (by omega)) (ev_pos ha (Ev.bind (mustSpeak_impl xs 1 hn) (ev_neg hne (Ev.now _)))), fun h => absurd h (by simp)⟩
  · exact ⟨false, Ev.bind (arePoints_impl xs (by omega)) (ev_neg ha (Ev.now _)), fun h => absurd h (by simp)⟩

theorem FnBurdens_won (l0 : List Int) (l : List S48) (s : Int) (hl : l.length ≤ 9) : Ev (fun k => (impl_Won.f k l s).bind fun t => if t ≤ (l.length : Int) then some (decide (t ≥ wrap64 (-(l.length : Int)))) else some false) true := by
  obtain ⟨b1, b2⟩ := wonSumI_bound s l
  refine Ev.bind (won_impl l s (by omega)) (ev_pos b2 (ev_eq (Ev.now _) (decide_eq_true ?_)))
  rw [wrap_id (by omega) (by omega)]
  exact b1
theorem FnBurdens_loop (l0 : List Int) (hb : l0.length ≤ 1048576) (c : List S48) (hl : c.length ≤ 9) (hp : ∀ p ∈ c, p.f2 ≠ 0 ∧ p.f2 ≠ 2) : ∀ (zs : List S48) (i : Nat), c.drop i = zs → Ev (fun k => laws_FnBurdens.l0 k l0 c (i : Int)) true := by
  intro zs
  induction zs with
  | nil =>
    intro i h
    have := at_end h
    obtain ⟨l, s, eD, hl2⟩ := drawWon_ok l0 hb
    refine Ev.step (fun k => by rw [laws_FnBurdens.l0]) ?_
    exact ev_neg (by omega) (Ev.bind eD (FnBurdens_won l0 l s hl2))
  | cons z zs ih =>
    intro i h
    obtain ⟨hlt, hz, h2, _⟩ := at_drop h
    have hr : rd_T48 c (i : Int) = z := getD_at hz
    have hs := hp z (List.mem_of_getElem? hz)
    refine Ev.step (fun k => by rw [laws_FnBurdens.l0]) ?_
    rw [hr, wrap_id (by omega) (by omega)]
    exact ev_pos (by omega) (ev_pos (by omega) (ev_neg hs.1 (ev_neg hs.2 (ih (i + 1) h2))))
theorem FnBurdens_j1 (l0 : List Int) (hb : l0.length ≤ 1048576) : Ev (fun k => laws_FnBurdens.j1 k l0 false) true := by
  obtain ⟨c, eC, hl⟩ := drawIsSettled_ok l0 hb
  obtain ⟨r, er, hr⟩ := settled_impl2 c (by omega)
  obtain ⟨l, s, eD, hl2⟩ := drawWon_ok l0 hb
  refine Ev.step (fun k => by rw [laws_FnBurdens.j1]) ?_
  refine ev_neg (by simp) (Ev.bind eC (Ev.bind er (ev_ite (fun e => ?_) (fun _ => Ev.bind eD (FnBurdens_won l0 l s hl2)))))
  exact FnBurdens_loop l0 hb c hl (hr e) c 0 rfl
theorem FnBurdens_j0 (l0 : List Int) (hb : l0.length ≤ 1048576) : Ev (fun k => laws_FnBurdens.j0 k l0 false) true := by
  obtain ⟨a, n, w, eD, hl⟩ := drawRaise_ok l0 hb
  obtain ⟨f1, f2⟩ := raise_fact a n w
  have er := raise_impl a n w (by omega)
  generalize raiseV a n w = R at f1 f2 er
  refine Ev.step (fun k => by rw [laws_FnBurdens.j0]) ?_
  refine ev_neg (by simp) (Ev.bind eD (Ev.bind er (ev_ite (fun e => ?_) (fun e => ?_))))
  · obtain ⟨ha, hlen, ⟨k1, k2⟩, hm⟩ := f1 e
    dsimp only at k1 k2 hlen ⊢
    rw [wrap_id (x := (a.length : Int) + 1) (by omega) (by omega), wrap_id (x := 3 - w) (by omega) (by omega)]
    have hml := mustSpeak_length R.1 (3 - w)
    refine Ev.bind (arePoints_impl R.1 (by omega)) (ev_pos ha (ev_pos (by omega) (Ev.bind (mustSpeak_impl R.1 (3 - w) (by omega)) (Ev.bind (containsL_ev _ n (by omega)) (ev_pos (decide_eq_true hm) (FnBurdens_j1 l0 hb))))))
  · have h2 := f2 (by simpa using e)
    rw [h2]
    dsimp only
    rw [bne_self_eq_false]
    exact FnBurdens_j1 l0 hb
theorem FnBurdens (l0 : List Int) (g0 : l0.length ≤ 9223372036854775807 ∧ ∀ y ∈ l0, (Lit.int .u8 y).wf = true) : ∃ k, laws_FnBurdens.f k l0 = some true := by
  refine Ev.rounds (g := fun k => laws_FnBurdens.f k l0) ?_
  unfold laws_FnBurdens.f
  refine ev_bind0 (big_eq l0) (ev_ite (fun _ => Ev.now _) (fun hm => ?_))
  have hb : l0.length ≤ 1048576 := by
    rw [decide_eq_true_eq] at hm
    omega
  obtain ⟨l, n, w, s, eD, hl⟩ := drawReply_ok l0 hb
  have f1 := reply_fact l n w s
  have hlen := replyV_length l n w s
  have er := reply_impl l n w s (by omega)
  generalize replyV l n w s = R at f1 hlen er
  have hfin : Ev (fun k => laws_FnBurdens.j0 k l0 ((R.1.length : Int) != (l.length : Int))) true := by
    rw [hlen, bne_self_eq_false]
    exact FnBurdens_j0 l0 hb
  refine Ev.bind eD (Ev.bind er (ev_ite (fun e => ?_) (fun e => hfin)))
  obtain ⟨ha, hm2⟩ := f1 e
  have hml := mustSpeak_length l w
  exact Ev.bind (arePoints_impl R.1 (by omega)) (ev_pos ha (Ev.bind (mustSpeak_impl l w (by omega)) (Ev.bind (containsL_ev _ n (by omega)) (ev_pos (decide_eq_true hm2) hfin))))

end Go.Proofs.Ytjidlgimnigllaa.Pure
