-- Written by a program of this session (hooks of mine on the print): Lean checks it.
import Derived.Test.YtdlobolnajcfnaaPFnPositionsx0
import Derived.Test.YtdlobolnajcfnaaPFnPositionsx7
import Derived.Test.YtdlobolnajcfnaaPFnPositionsx9
import Derived.Test.YtdlobolnajcfnaaPFnPositionsx10
namespace Go.Proofs.Ytdlobolnajcfnaa.PFnPositions
open Go.RowKit Go.Proofs.YtdlobolnajcfnaaW.PrintWords Go.Proofs.YtdlobolnajcfnaaW.PrintLast Go.Proofs.YtdlobolnajcfnaaW.PrintMore
attribute [local go_sem] max2_int min2_int max_two min_two max_three min_three max_four min_four   -- for this text's walks alone
set_option linter.unusedVariables false
set_option linter.unusedSimpArgs false
set_option maxHeartbeats 8000000
set_option maxRecDepth 100000

/-! ### laws_contains: function 30 -/
def laws_contains.l0 : Nat → List Int → Int → Int → Option (Bool)
 | 0, _, _, _ => none
 | k + 1, x0, x1, x5 => if x5 < (x0.length : Int) then (if 0 ≤ x5 then (if (rd x0 x5) = x1 then (some true) else (laws_contains.l0 k x0 x1 (wrap64 (x5 + 1)))) else (none)) else (some false)
def laws_contains.f (k : Nat) (l0 : List Int) (a1 : Int) : Option (Bool) := laws_contains.l0 k l0 a1 0
theorem laws_contains.mono_l : ∀ k, (∀ y0 y1 y2, LeO (laws_contains.l0 k y0 y1 y2) (laws_contains.l0 (k + 1) y0 y1 y2))
 | 0 => fun _ _ _ r h => by simp [laws_contains.l0] at h
 | k + 1 => by
  have ih0 := laws_contains.mono_l k
  ·intro y0 y1 y2
   unfold laws_contains.l0
   repeat' with_reducible first | apply ih0 | apply Zy | apply Zg | refine Zl ?_ ?_ | refine Zh ?_ (fun _ => ?_)
theorem laws_contains.mono : ∀ a0 a1 k, LeO (laws_contains.f k a0 a1) (laws_contains.f (k + 1) a0 a1) := by
 intro a0 a1 k
 have ih0 := laws_contains.mono_l k
 unfold laws_contains.f
 repeat' with_reducible first | apply ih0 | apply Zy | apply Zg | refine Zl ?_ ?_ | refine Zh ?_ (fun _ => ?_)
theorem laws_contains.calls (k : Nat) (A0 : Option Addr) (c0 : Nat) (l0 : List Int) (a1 : Int) (r : Bool) (w : World) (hr0 : Kd.C (Kd.int .i64) w A0 l0.length l0) (hc0 : l0.length ≤ c0) (h : laws_contains.f k l0 a1 = some r) :
  Calls Try.prog 30 #[.slice A0 l0.length c0, .int .i64 a1] w fun e w' => e = .returned (.bool r) ∧ Drawn0 w w' := by
 have HR0 := Aside0.mk hr0
 have HC0 := Aside0.mk hc0
 clear hr0 hc0
 have H := h
 unfold laws_contains.f at H
 clear h
 have H' := Aside0.mk H
 clear H
 go_enter Try.func30, Try.ntmps30
 go_wp2
 go_loopg [5] k (fun kq v5 w' => ∃ (x5_1 : Int), v5 = .int .i64 x5_1 ∧ Aside0 (laws_contains.l0 kq l0 a1 x5_1 = some r) ∧ Aside0 (kq ≤ k) ∧ Drawn0 w w')
 case atStart => exact ⟨(0), sm_, H', ⟨Nat.le_refl _⟩, dr_⟩
 case round =>
  clear H'
  try clear p2
  obtain ⟨x5_1, rfl, HA, HK1, ⟨m1, rfl⟩⟩ := hrel
  cases gk with
  | zero => exact absurd HA.out (by simp [laws_contains.l0])
  | succ k1 =>
   have H := HA.out
   clear HA
   simp only [laws_contains.l0] at H
   by_cases c3 : x5_1 < (l0.length : Int)
   rotate_left
   ·rw [if_neg c3] at H
    have c3b0 : decide (x5_1 < (l0.length : Int)) = false := decide_eq_false c3
    clear c3
    obtain rfl := Option.some.inj H
    go_wp2
    go_ret
    exact ⟨sm_, dr_⟩
   rw [if_pos c3] at H
   have c3b0 : decide (x5_1 < (l0.length : Int)) = true := decide_eq_true c3
   clear c3
   by_cases c4 : 0 ≤ x5_1
   rotate_left
   ·rw [if_neg c4] at H
    exact absurd H (by simp)
   rw [if_pos c4] at H
   have c4b0 : decide (0 ≤ x5_1) = true := decide_eq_true c4
   clear c4
   by_cases c5 : (rd l0 x5_1) = a1
   ·rw [if_pos c5] at H
    have c5b0 : ((rd l0 x5_1) == a1) = true := beq_iff_eq.mpr c5
    have c5b1 : ((rd l0 x5_1) != a1) = false := bne_eq_false_iff_eq.mpr c5
    clear c5
    obtain rfl := Option.some.inj H
    have p572 : 0 ≤ (x5_1 : Int) := of_decide_eq_true as_
    have q572 : x5_1 < (l0.length : Int) := of_decide_eq_true as_
    obtain ⟨ad572, e572, hx572_0⟩ := Zo HR0.out x5_1 p572 q572
    cases e572
    replace p572 := eq_true p572
    replace q572 := eq_true q572
    go_wp2
    go_ret
    exact ⟨sm_, dr_⟩
   rw [if_neg c5] at H
   have c5b0 : ((rd l0 x5_1) == a1) = false := beq_eq_false_iff_ne.mpr c5
   have c5b1 : ((rd l0 x5_1) != a1) = true := bne_iff_ne.mpr c5
   have H' := Aside0.mk H
   clear H
   have p572 : 0 ≤ (x5_1 : Int) := of_decide_eq_true as_
   have q572 : x5_1 < (l0.length : Int) := of_decide_eq_true as_
   obtain ⟨ad572, e572, hx572_0⟩ := Zo HR0.out x5_1 p572 q572
   cases e572
   replace p572 := eq_true p572
   replace q572 := eq_true q572
   go_wp2
   go_roundg k1
   case measure => have := HK1.out; omega
   case rel => exact ⟨(wrap64 (x5_1 + 1)), sm_, H', ⟨by have := HK1.out; omega⟩, dr_⟩

/-! ### laws_within: function 26 -/
def laws_within.l0 : Nat → List Int → List Int → Int → Option (Bool)
 | 0, _, _, _ => none
 | k + 1, x0, x1, x5 => if x5 < (x0.length : Int) then (if 0 ≤ x5 then ((laws_contains.f k x1 (rd x0 x5)).bind fun t574 => (if t574 = true then (laws_within.l0 k x0 x1 (wrap64 (x5 + 1))) else (some false))) else (none)) else (some true)
def laws_within.f (k : Nat) (l0 : List Int) (l1 : List Int) : Option (Bool) := laws_within.l0 k l0 l1 0
theorem laws_within.mono_l : ∀ k, (∀ y0 y1 y2, LeO (laws_within.l0 k y0 y1 y2) (laws_within.l0 (k + 1) y0 y1 y2))
 | 0 => fun _ _ _ r h => by simp [laws_within.l0] at h
 | k + 1 => by
  have ih0 := laws_within.mono_l k
  ·intro y0 y1 y2
   unfold laws_within.l0
   repeat' with_reducible first | apply ih0 | apply laws_contains.mono | apply Zy | apply Zg | refine Zl ?_ ?_ | refine Zh ?_ (fun _ => ?_)
theorem laws_within.mono : ∀ a0 a1 k, LeO (laws_within.f k a0 a1) (laws_within.f (k + 1) a0 a1) := by
 intro a0 a1 k
 have ih0 := laws_within.mono_l k
 unfold laws_within.f
 repeat' with_reducible first | apply ih0 | apply laws_contains.mono | apply Zy | apply Zg | refine Zl ?_ ?_ | refine Zh ?_ (fun _ => ?_)
theorem laws_within.calls (k : Nat) (A0 : Option Addr) (c0 : Nat) (l0 : List Int) (A1 : Option Addr) (c1 : Nat) (l1 : List Int) (r : Bool) (w : World) (hr0 : Kd.C (Kd.int .i64) w A0 l0.length l0) (hc0 : l0.length ≤ c0) (hr1 : Kd.C (Kd.int .i64) w A1 l1.length l1) (hc1 : l1.length ≤ c1) (h : laws_within.f k l0 l1 = some r) :
  Calls Try.prog 26 #[.slice A0 l0.length c0, .slice A1 l1.length c1] w fun e w' => e = .returned (.bool r) ∧ Drawn0 w w' := by
 have HR0 := Aside0.mk hr0
 have HC0 := Aside0.mk hc0
 clear hr0 hc0
 have HR1 := Aside0.mk hr1
 have HC1 := Aside0.mk hc1
 clear hr1 hc1
 have H := h
 unfold laws_within.f at H
 clear h
 have H' := Aside0.mk H
 clear H
 go_enter Try.func26, Try.ntmps26
 go_wp2
 go_loopg [5] k (fun kq v5 w' => ∃ (x5_1 : Int), v5 = .int .i64 x5_1 ∧ Aside0 (laws_within.l0 kq l0 l1 x5_1 = some r) ∧ Aside0 (kq ≤ k) ∧ Drawn0 w w')
 case atStart => exact ⟨(0), sm_, H', ⟨Nat.le_refl _⟩, dr_⟩
 case round =>
  clear H'
  try clear c1
  try clear c2
  try clear p2
  obtain ⟨x5_1, rfl, HA, HK1, ⟨m1, rfl⟩⟩ := hrel
  cases gk with
  | zero => exact absurd HA.out (by simp [laws_within.l0])
  | succ k1 =>
   have H := HA.out
   clear HA
   simp only [laws_within.l0] at H
   by_cases c3 : x5_1 < (l0.length : Int)
   rotate_left
   ·rw [if_neg c3] at H
    have c3b0 : decide (x5_1 < (l0.length : Int)) = false := decide_eq_false c3
    clear c3
    obtain rfl := Option.some.inj H
    go_wp2
    go_ret
    exact ⟨sm_, dr_⟩
   rw [if_pos c3] at H
   have c3b0 : decide (x5_1 < (l0.length : Int)) = true := decide_eq_true c3
   clear c3
   by_cases c4 : 0 ≤ x5_1
   rotate_left
   ·rw [if_neg c4] at H
    exact absurd H (by simp)
   rw [if_pos c4] at H
   have c4b0 : decide (0 ≤ x5_1) = true := decide_eq_true c4
   clear c4
   obtain ⟨t574, A5, H⟩ := bd_ H
   try dsimp only at H
   by_cases c6 : t574 = true
   rotate_left
   ·replace c6 := Bool.eq_false_iff.mpr c6
    subst c6
    rw [if_neg (show ¬ (false = true) by decide)] at H
    try dsimp only at H
    obtain rfl := Option.some.inj H
    have p573 : 0 ≤ (x5_1 : Int) := of_decide_eq_true as_
    have q573 : x5_1 < (l0.length : Int) := of_decide_eq_true as_
    obtain ⟨ad573, e573, hx573_0⟩ := Zo HR0.out x5_1 p573 q573
    cases e573
    replace p573 := eq_true p573
    replace q573 := eq_true q573
    go_wp2_with (first | ((with_reducible refine Zf (f := 30) rfl ?_); refine ZC (some 17) rfl rfl Try.func30 (by kernel_rfl) rfl #[.slice A1 l1.length c1, .int .i64 (rd l0 x5_1)] rfl ar_ ?_; (with_reducible refine (laws_contains.calls k1 _ _ l1 (rd l0 x5_1) false _ ?side1 ?side2 A5.out).mono ?_); (case side1 => exact sA_ HR1.out); (case side2 => exact HC1.out); rintro e w' ⟨rfl, ⟨nd, rfl⟩⟩; refine ⟨_, rfl, ?_⟩))
    go_ret
    exact ⟨sm_, dr_⟩
   subst c6
   rw [if_pos rfl] at H
   try dsimp only at H
   have H' := Aside0.mk H
   clear H
   have p573 : 0 ≤ (x5_1 : Int) := of_decide_eq_true as_
   have q573 : x5_1 < (l0.length : Int) := of_decide_eq_true as_
   obtain ⟨ad573, e573, hx573_0⟩ := Zo HR0.out x5_1 p573 q573
   cases e573
   replace p573 := eq_true p573
   replace q573 := eq_true q573
   go_wp2_with (first | ((with_reducible refine Zf (f := 30) rfl ?_); refine ZC (some 17) rfl rfl Try.func30 (by kernel_rfl) rfl #[.slice A1 l1.length c1, .int .i64 (rd l0 x5_1)] rfl ar_ ?_; (with_reducible refine (laws_contains.calls k1 _ _ l1 (rd l0 x5_1) true _ ?side1 ?side2 A5.out).mono ?_); (case side1 => exact sA_ HR1.out); (case side2 => exact HC1.out); rintro e w' ⟨rfl, ⟨nd, rfl⟩⟩; refine ⟨_, rfl, ?_⟩))
   go_roundg k1
   case measure => have := HK1.out; omega
   case rel => exact ⟨(wrap64 (x5_1 + 1)), sm_, H', ⟨by have := HK1.out; omega⟩, dr_⟩

/-! ### impl_rounds: function 78 -/
def impl_rounds.l0 : Nat → List (List Int) → Int → List (List Int) → Option ((List (List Int)))
 | 0, _, _, _ => none
 | k + 1, x3, x576000, x576001 => if 0 ≤ (wrap64 ((x3.length : Int) - 1)) then (if (wrap64 ((x3.length : Int) - 1)) < (x3.length : Int) then ((impl_DefendedBy.f k x576000 x576001 (rd_L2 x3 (wrap64 ((x3.length : Int) - 1)))).bind fun t584 => ((slices_Equal_int_int.f k t584 (rd_L2 x3 (wrap64 ((x3.length : Int) - 1)))).bind fun t587 => (if t587 = true then (some x3) else (if x3.length < 5864062014805 then (impl_rounds.l0 k (x3 ++ [t584]) x576000 x576001) else (none))))) else (none)) else (none)
def impl_rounds.f (k : Nat) (a0_0 : Int) (l0_1 : List (List Int)) : Option ((List (List Int))) := (some (([(([] : List Int))] : List (List Int)) : List (List Int))).bind fun y579 => ((impl_IsGraph.f k a0_0 l0_1).bind fun t582 => (if t582 = true then (impl_rounds.l0 k y579 a0_0 l0_1) else (some y579)))
theorem impl_rounds.mono_l : ∀ k, (∀ y0 y1 y2, LeO (impl_rounds.l0 k y0 y1 y2) (impl_rounds.l0 (k + 1) y0 y1 y2))
 | 0 => fun _ _ _ r h => by simp [impl_rounds.l0] at h
 | k + 1 => by
  have ih0 := impl_rounds.mono_l k
  ·intro y0 y1 y2
   unfold impl_rounds.l0
   repeat' with_reducible first | apply ih0 | apply impl_DefendedBy.mono | apply impl_IsGraph.mono | apply slices_Equal_int_int.mono | apply Zy | apply Zg | refine Zl ?_ ?_ | refine Zh ?_ (fun _ => ?_)
theorem impl_rounds.mono : ∀ a0 a1 k, LeO (impl_rounds.f k a0 a1) (impl_rounds.f (k + 1) a0 a1) := by
 intro a0 a1 k
 have ih0 := impl_rounds.mono_l k
 unfold impl_rounds.f
 repeat' with_reducible first | apply ih0 | apply impl_DefendedBy.mono | apply impl_IsGraph.mono | apply slices_Equal_int_int.mono | apply Zy | apply Zg | refine Zl ?_ ?_ | refine Zh ?_ (fun _ => ?_)
theorem impl_rounds.calls (k : Nat) (a0_0 : Int) (A0_1 : Option Addr) (c0_1 : Nat) (l0_1 : List (List Int)) (r : List (List Int)) (w : World) (hr0_1 : Kd.C (Kd.slice 3 (Kd.int .i64)) w A0_1 l0_1.length l0_1) (hc0_1 : l0_1.length ≤ c0_1) (h : impl_rounds.f k a0_0 l0_1 = some r) :
  Calls Try.prog 78 #[.agg #[.int .i64 a0_0, .slice A0_1 l0_1.length c0_1]] w fun e w' => ∃ v0_ : Value, e = .returned (v0_) ∧ Kd.N (Kd.slice 3 (Kd.int .i64)) 31 w' w.heap.size (fun k_ => (w.heap.size ≤ k_)) v0_ r ∧ Below w.heap.size w w' := by
 have hu27 := Try.underlying27
 have HR0_1 := Aside0.mk hr0_1
 have HC0_1 := Aside0.mk hc0_1
 clear hr0_1 hc0_1
 have HB := Aside0.mk (Below.refl w.heap.size w)
 have H := h
 unfold impl_rounds.f at H
 clear h
 obtain ⟨y576, hy576⟩ : ∃ y_ : List Int, y_ = (([] : List Int)) := ⟨_, rfl⟩
 replace H : ((some (([y576] : List (List Int)) : List (List Int))).bind fun y579 => ((impl_IsGraph.f k a0_0 l0_1).bind fun t582 => (if t582 = true then (impl_rounds.l0 k y579 a0_0 l0_1) else (some y579)))) = some r := hy_ hy576 H
 have Ny576 := Aside0.mk hy576
 clear hy576
 obtain ⟨y579, hy579⟩ : ∃ y_ : List (List Int), y_ = (([y576] : List (List Int))) := ⟨_, rfl⟩
 replace H : ((impl_IsGraph.f k a0_0 l0_1).bind fun t582 => (if t582 = true then (impl_rounds.l0 k y579 a0_0 l0_1) else (some y579))) = some r := hy_ hy579 H
 have Ny579 := Aside0.mk hy579
 clear hy579
 obtain ⟨t582, A2, H⟩ := bd_ H
 try dsimp only at H
 by_cases c3 : t582 = true
 rotate_left
 ·replace c3 := Bool.eq_false_iff.mpr c3
  subst c3
  rw [if_neg (show ¬ (false = true) by decide)] at H
  try dsimp only at H
  obtain rfl := Option.some.inj H
  go_enter Try.func78, Try.ntmps78
  go_wp2_with (first | ((with_reducible refine Zz (N := 1) rfl ?_); refine ZI ?hg (N := 1) ?hd (cs := #[.int .i64 a0_0, .slice A0_1 l0_1.length c0_1]) (t := 27) ?hr ?_; (case hd => rfl); (case hg => rfl); (case hr => first | (go_simp; done) | (go_simp; rfl)); intro gb575 hg w28 hbox hb; have BK575 := Aside0.mk (hbox); have GW575 := Aside0.mk ((hz_ hg : w.heap.size ≤ gb575)); have GE575 := Aside0.mk ((hz_ hg : w.heap.size ≤ gb575)); replace HB := Aside0.mk (Zc hB_ hb); clear hb hbox hg) | ((with_reducible refine Zz (N := 6) rfl ?_); refine Kd.R_lit (Kd.int .i64) _ 3 ?hg (N := 6) ?hd (xs := ([] : List Int)) (inner := []) (ok := fun _ => True) (okp := fun _ => True) ?hr ?hp (fun _ hk => hk) trivial (Below.refl _ _) (Nat.le_refl _) (by simp) ?_; (case hd => rfl); (case hg => rfl); (case hr => first | (go_simp; done) | (go_simp; rfl)); (case hp => exact (Reps.none _ _)); intro v577 w29 ho30 hb hg_ hnew_; clear hg_ hnew_; (first | rw [← Ny576.out] at ho30 | (simp only [Int.reduceToNat] at ho30; rw [← Ny576.out] at ho30)); have HO578 := Aside0.mk (Kd.R_lower (Kd.R_newM (M := fun k_ => (w.heap.size ≤ k_)) ho30 (Ze hB_) (fun k_ h_ => h_)) (Ze hB_)); replace BK575 := Aside0.mk (Zd (bq_ BK575.out) hb); replace HB := Aside0.mk (Zc hB_ hb); clear hb ho30; obtain ⟨Ao31, co31, eo31⟩ := Kd.R_slice HO578.out; subst eo31) | ((with_reducible refine Zz (N := 7) rfl ?_); refine Kd.N_lit (Kd.slice 3 (Kd.int .i64)) _ 31 ?hg (N' := 7) ?hd (xs := ([y576] : List (List Int))) (inner := [.slice Ao31 y576.length co31]) (ok := (fun k_ => (w.heap.size ≤ k_) ∧ k_ ≠ gb575)) (okp := (fun k_ => (w.heap.size ≤ k_) ∧ k_ ≠ gb575)) ?hr ?hp (fun _ hk => hk) ((show ∀ k_, w29.heap.size ≤ k_ → (fun k_ => (w.heap.size ≤ k_) ∧ k_ ≠ gb575) k_ from fun k_ hk => ⟨(Nat.le_trans (Ze hB_) hk), Kd.freshB (bq_ BK575.out) k_ hk⟩) _ (Nat.le_refl _)) (Below.refl _ _) (Nat.le_refl _) (by simp) ?_; (case hd => rfl); (case hg => rfl); (case hr => first | (go_simp; done) | (go_simp; rfl)); (case hp => exact (Reps.one (show Kd.FK (Kd.slice 3 (Kd.int .i64)) _ _ y576 [.slice Ao31 y576.length co31] from (Kd.FK_slice_mk (ZE (ZK (ok' := (fun k_ => (w.heap.size ≤ k_) ∧ k_ ≠ gb575)) (Kd.R_types (HO578.out) BK575.out (by decide)) (fun k_ hk => ⟨hk.1.1, hk.2⟩))).2.1 (Kd.R_F (ZK (ok' := (fun k_ => (w.heap.size ≤ k_) ∧ k_ ≠ gb575)) (Kd.R_types (HO578.out) BK575.out (by decide)) (fun k_ hk => ⟨hk.1.1, hk.2⟩))))) (Reps.none _ _))); intro v580 w32 ho33 hb hg_ hnew_; clear hg_ hnew_; (first | rw [← Ny579.out] at ho33 | (simp only [Int.reduceToNat] at ho33; rw [← Ny579.out] at ho33)); have n0_ := Aside0.mk (Kd.N_lower ho33 (Ze hB_)); have n1_ := Aside0.mk (Zd (bq_ BK575.out) hb); have n2_ := Aside0.mk (Zc hB_ hb); clear BK575; clear HB; clear HO578; have HO581 := n0_; have BK575 := n1_; have HB := n2_; clear n0_ n1_ n2_; clear hb ho33; obtain ⟨hcz34_0, hcz34_1, hfz34_0, hfz34_1⟩ := c2_ BK575.out) | ((with_reducible refine Zf (f := 24) rfl ?_); refine ZC (some 9) rfl rfl Try.func24 (by kernel_rfl) rfl #[.agg #[.int .i64 a0_0, .slice A0_1 l0_1.length c0_1]] rfl ar_ ?_; (with_reducible refine (impl_IsGraph.calls k a0_0 _ _ l0_1 false _ ?side1 ?side2 A2.out).mono ?_); (case side1 => exact cb_ HR0_1.out); (case side2 => exact HC0_1.out); rintro e w35 ⟨rfl, hb⟩; refine ⟨_, rfl, ?_⟩; replace HO581 := Aside0.mk (ZH (rN_ HO581.out) hb); replace BK575 := Aside0.mk (Zd (bq_ BK575.out) hb); replace HB := Aside0.mk (Zc hB_ hb); (try clear hb); (try clear hk)))
  go_ret
  exact ⟨_, er_, by (with_reducible repeat (first | apply ZG | apply ZF | apply Zv)); exact ZB HO581.out (fun _ hk => hk.1), hB_⟩
 subst c3
 rw [if_pos rfl] at H
 try dsimp only at H
 have H' := Aside0.mk H
 clear H
 go_enter Try.func78, Try.ntmps78
 go_wp2_with (first | ((with_reducible refine Zz (N := 1) rfl ?_); refine ZI ?hg (N := 1) ?hd (cs := #[.int .i64 a0_0, .slice A0_1 l0_1.length c0_1]) (t := 27) ?hr ?_; (case hd => rfl); (case hg => rfl); (case hr => first | (go_simp; done) | (go_simp; rfl)); intro gb575 hg w4 hbox hb; have BK575 := Aside0.mk (hbox); have GW575 := Aside0.mk ((hz_ hg : w.heap.size ≤ gb575)); have GE575 := Aside0.mk ((hz_ hg : w.heap.size ≤ gb575)); replace HB := Aside0.mk (Zc hB_ hb); clear hb hbox hg) | ((with_reducible refine Zz (N := 6) rfl ?_); refine Kd.R_lit (Kd.int .i64) _ 3 ?hg (N := 6) ?hd (xs := ([] : List Int)) (inner := []) (ok := fun _ => True) (okp := fun _ => True) ?hr ?hp (fun _ hk => hk) trivial (Below.refl _ _) (Nat.le_refl _) (by simp) ?_; (case hd => rfl); (case hg => rfl); (case hr => first | (go_simp; done) | (go_simp; rfl)); (case hp => exact (Reps.none _ _)); intro v577 w5 ho6 hb hg_ hnew_; clear hg_ hnew_; (first | rw [← Ny576.out] at ho6 | (simp only [Int.reduceToNat] at ho6; rw [← Ny576.out] at ho6)); have HO578 := Aside0.mk (Kd.R_lower (Kd.R_newM (M := fun k_ => (w.heap.size ≤ k_)) ho6 (Ze hB_) (fun k_ h_ => h_)) (Ze hB_)); replace BK575 := Aside0.mk (Zd (bq_ BK575.out) hb); replace HB := Aside0.mk (Zc hB_ hb); clear hb ho6; obtain ⟨Ao7, co7, eo7⟩ := Kd.R_slice HO578.out; subst eo7) | ((with_reducible refine Zz (N := 7) rfl ?_); refine Kd.N_lit (Kd.slice 3 (Kd.int .i64)) _ 31 ?hg (N' := 7) ?hd (xs := ([y576] : List (List Int))) (inner := [.slice Ao7 y576.length co7]) (ok := (fun k_ => (w.heap.size ≤ k_) ∧ k_ ≠ gb575)) (okp := (fun k_ => (w.heap.size ≤ k_) ∧ k_ ≠ gb575)) ?hr ?hp (fun _ hk => hk) ((show ∀ k_, w5.heap.size ≤ k_ → (fun k_ => (w.heap.size ≤ k_) ∧ k_ ≠ gb575) k_ from fun k_ hk => ⟨(Nat.le_trans (Ze hB_) hk), Kd.freshB (bq_ BK575.out) k_ hk⟩) _ (Nat.le_refl _)) (Below.refl _ _) (Nat.le_refl _) (by simp) ?_; (case hd => rfl); (case hg => rfl); (case hr => first | (go_simp; done) | (go_simp; rfl)); (case hp => exact (Reps.one (show Kd.FK (Kd.slice 3 (Kd.int .i64)) _ _ y576 [.slice Ao7 y576.length co7] from (Kd.FK_slice_mk (ZE (ZK (ok' := (fun k_ => (w.heap.size ≤ k_) ∧ k_ ≠ gb575)) (Kd.R_types (HO578.out) BK575.out (by decide)) (fun k_ hk => ⟨hk.1.1, hk.2⟩))).2.1 (Kd.R_F (ZK (ok' := (fun k_ => (w.heap.size ≤ k_) ∧ k_ ≠ gb575)) (Kd.R_types (HO578.out) BK575.out (by decide)) (fun k_ hk => ⟨hk.1.1, hk.2⟩))))) (Reps.none _ _))); intro v580 w8 ho9 hb hg_ hnew_; clear hg_ hnew_; (first | rw [← Ny579.out] at ho9 | (simp only [Int.reduceToNat] at ho9; rw [← Ny579.out] at ho9)); have n0_ := Aside0.mk (Kd.N_lower ho9 (Ze hB_)); have n1_ := Aside0.mk (Zd (bq_ BK575.out) hb); have n2_ := Aside0.mk (Zc hB_ hb); clear BK575; clear HB; clear HO578; have HO581 := n0_; have BK575 := n1_; have HB := n2_; clear n0_ n1_ n2_; clear hb ho9; obtain ⟨hcz10_0, hcz10_1, hfz10_0, hfz10_1⟩ := c2_ BK575.out) | ((with_reducible refine Zf (f := 24) rfl ?_); refine ZC (some 9) rfl rfl Try.func24 (by kernel_rfl) rfl #[.agg #[.int .i64 a0_0, .slice A0_1 l0_1.length c0_1]] rfl ar_ ?_; (with_reducible refine (impl_IsGraph.calls k a0_0 _ _ l0_1 true _ ?side1 ?side2 A2.out).mono ?_); (case side1 => exact cb_ HR0_1.out); (case side2 => exact HC0_1.out); rintro e w11 ⟨rfl, hb⟩; refine ⟨_, rfl, ?_⟩; replace HO581 := Aside0.mk (ZH (rN_ HO581.out) hb); replace BK575 := Aside0.mk (Zd (bq_ BK575.out) hb); replace HB := Aside0.mk (Zc hB_ hb); (try clear hb); (try clear hk)))
 go_loopg [3] k (fun kq v3 w' => ∃ (x3_1 : List (List Int)), Aside0 (impl_rounds.l0 kq x3_1 a0_0 l0_1 = some r) ∧ Aside0 (kq ≤ k) ∧ Aside0 (Kd.N (Kd.slice 3 (Kd.int .i64)) 31 w' w.heap.size (fun k_ => (w.heap.size ≤ k_) ∧ k_ ≠ gb575) v3 x3_1) ∧ Aside0 (w'.heap[gb575]? = some (.cells #[.int .i64 a0_0, (.slice A0_1 l0_1.length c0_1)] 27 (0, 0))) ∧ Aside0 (Below w.heap.size w w'))
 case atStart => exact ⟨(y579), H', ⟨Nat.le_refl _⟩, ⟨rN_ HO581.out⟩, ⟨bk_ BK575.out⟩, ⟨hB_⟩⟩
 case round =>
  clear H'
  try clear c2
  try clear p2
  try clear c3
  try clear c7
  try clear hcz10_0
  try clear hcz10_1
  try clear hfz10_0
  try clear hfz10_1
  obtain ⟨x3_1, HA, HK1, HO_3, BK575, HB⟩ := hrel
  cases gk with
  | zero => exact absurd HA.out (by simp [impl_rounds.l0])
  | succ k1 =>
   have H := HA.out
   clear HA
   simp only [impl_rounds.l0] at H
   obtain ⟨ji12, hji12⟩ : ∃ j_ : Int, (wrap64 ((x3_1.length : Int) - 1)) = j_ := ⟨_, rfl⟩
   replace H : (if 0 ≤ (ji12) then (if (ji12) < (x3_1.length : Int) then ((impl_DefendedBy.f k1 a0_0 l0_1 (rd_L2 x3_1 (ji12))).bind fun t584 => ((slices_Equal_int_int.f k1 t584 (rd_L2 x3_1 (ji12))).bind fun t587 => (if t587 = true then (some x3_1) else (if x3_1.length < 5864062014805 then (impl_rounds.l0 k1 (x3_1 ++ [t584]) a0_0 l0_1) else (none))))) else (none)) else (none)) = some r := by first | (rw [hji12] at H; exact H) | (simp only [hji12] at H ⊢; exact H)
   have hji12w : (IntKind.i64.wrap ((x3_1.length : Int) - 1)) = ji12 := (i64_w _).trans hji12
   by_cases c13 : 0 ≤ (ji12)
   rotate_left
   ·rw [if_neg c13] at H
    exact absurd H (by simp)
   rw [if_pos c13] at H
   have c13b0 : decide (0 ≤ (ji12)) = true := decide_eq_true c13
   clear c13
   by_cases c14 : (ji12) < (x3_1.length : Int)
   rotate_left
   ·rw [if_neg c14] at H
    exact absurd H (by simp)
   rw [if_pos c14] at H
   have c14b0 : decide ((ji12) < (x3_1.length : Int)) = true := decide_eq_true c14
   clear c14
   obtain ⟨t584, A15, H⟩ := bd_ H
   try dsimp only at H
   obtain ⟨t587, A16, H⟩ := bd_ H
   try dsimp only at H
   by_cases c17 : t587 = true
   ·subst c17
    rw [if_pos rfl] at H
    try dsimp only at H
    obtain rfl := Option.some.inj H
    obtain ⟨Ao18, co18, eo18⟩ := Kd.N_slice HO_3.out
    subst eo18
    have p583 : 0 ≤ ((ji12) : Int) := of_decide_eq_true as_
    have q583 : (ji12) < (x3_1.length : Int) := of_decide_eq_true as_
    obtain ⟨ad583, A583_0, c583_0, e583, hx583_0, hl583_0, hi583_0⟩ := at_L2 (Zn HO_3.out).2.2 (ji12) p583 q583
    cases e583
    obtain ⟨ce583, hce583, hMe583, hcc583⟩ := Kd.N_get HO_3.out [] (ji12) p583 (by first | exact q583 | exact of_decide_eq_true as_ | (have e_ := (Zn HO_3.out).1; omega))
    obtain ⟨ua583_0, uc583_0, rfl, ul583_0, ge583_0⟩ := Kd.FK_slice_open hMe583
    have hv583_0 := hcc583 0 _ rfl
    rw [Nat.add_zero, show ((Kd.slice 3 (Kd.int .i64))).sz = 1 from rfl, Nat.mul_one] at hv583_0
    replace hv583_0 := Option.some.inj (hv583_0.symm.trans hx583_0)
    injection hv583_0 with hva_ hvn_ hvc_
    rw [hva_] at ge583_0
    rw [hvc_] at ul583_0
    have HL583_0 := Aside0.mk (show Kd.V (Kd.int .i64) 3 _ w.heap.size _ _ (rd_L2 x3_1 (ji12)) from Kd.V_mk ul583_0 ge583_0)
    clear hva_ hvn_ hvc_ ge583_0 ul583_0
    clear hcc583 hce583
    have HR583_0 := Aside0.mk hi583_0
    have HC583_0 := Aside0.mk hl583_0
    clear hi583_0 hl583_0
    replace p583 := eq_true p583
    replace q583 := eq_true q583
    obtain ⟨hcz19_0, hcz19_1, hfz19_0, hfz19_1⟩ := c2_ BK575.out
    go_wp2_with (first | ((with_reducible refine Zf (f := 77) rfl ?_); refine ZC (some 20) rfl rfl Try.func77 (by kernel_rfl) rfl #[.agg #[.int .i64 a0_0, .slice A0_1 l0_1.length c0_1], .slice A583_0 (rd_L2 x3_1 (ji12)).length c583_0] rfl (by (try simp only [List.map_toArray, List.map_cons, List.map_nil]); first | done | (simp only [hji12]; rfl) | rfl | (simp only [List.length_drop, List.length_take]; rfl)) ?_; (with_reducible refine (impl_DefendedBy.calls k1 a0_0 _ _ l0_1 _ _ (rd_L2 x3_1 (ji12)) t584 _ ?side1 ?side2 ?side3 ?side4 A15.out).mono ?_); (case side1 => exact cb_ HR0_1.out); (case side2 => exact HC0_1.out); (case side3 => exact sA_ (cf_ HR583_0.out)); (case side4 => exact HC583_0.out); rintro e w20 ⟨v585, rfl, ho0, hb⟩; refine ⟨_, rfl, ?_⟩; replace HO_3 := Aside0.mk (Kd.N_elder' (rN_ HO_3.out) (Kd.R_base ho0) hb); replace HL583_0 := Aside0.mk (Kd.V_elder' (by (with_reducible repeat (first | apply ZQ | apply ZO | apply ZS)); exact HL583_0.out) (Kd.R_base ho0) hb); have HO586 := Aside0.mk (Kd.R_lower (Kd.R_newM (M := fun k_ => (w.heap.size ≤ k_)) ho0 (Ze hB_) (fun k_ h_ => h_)) (Ze hB_)); replace BK575 := Aside0.mk (Zd (bq_ BK575.out) hb); replace HR583_0 := Aside0.mk (Kd.C_below (cf_ HR583_0.out) hb); replace HB := Aside0.mk (Zc hB_ hb); (try clear hb); (try clear ho0); obtain ⟨Ao21, co21, eo21⟩ := Kd.R_slice HO586.out; subst eo21) | ((with_reducible refine Zf (f := 76) rfl ?_); refine ZC (some 23) rfl rfl Try.func76 (by kernel_rfl) rfl #[.slice Ao21 t584.length co21, .slice A583_0 (rd_L2 x3_1 (ji12)).length c583_0] rfl (by (try simp only [List.map_toArray, List.map_cons, List.map_nil]); first | done | (simp only [hji12]; rfl) | rfl | (simp only [List.length_drop, List.length_take]; rfl)) ?_; (with_reducible refine (slices_Equal_int_int.calls k1 _ _ t584 _ _ (rd_L2 x3_1 (ji12)) true _ ?side1 ?side2 ?side3 ?side4 A16.out).mono ?_); (case side1 => exact sA_ (ZE HO586.out).2.2); (case side2 => exact (ZE HO586.out).2.1); (case side3 => exact sA_ (cf_ HR583_0.out)); (case side4 => exact HC583_0.out); rintro e w' ⟨rfl, ⟨nd, rfl⟩⟩; refine ⟨_, rfl, ?_⟩))
    go_ret
    exact ⟨_, by first | rfl | (simp [errW_none, errW_some] <;> rfl) | (simp only [← hji12]; first | rfl | (simp [errW_none, errW_some] <;> rfl)) | (simp [*, errW_none, errW_some] <;> rfl), by (with_reducible repeat (first | apply ZG | apply ZF | apply Zv)); exact ZB HO_3.out (fun _ hk => hk.1.1), hB_⟩
   replace c17 := Bool.eq_false_iff.mpr c17
   subst c17
   rw [if_neg (show ¬ (false = true) by decide)] at H
   try dsimp only at H
   by_cases c22 : x3_1.length < 5864062014805
   rotate_left
   ·rw [if_neg c22] at H
    exact absurd H (by simp)
   rw [if_pos c22] at H
   have LMc22 := Aside0.mk c22
   clear c22
   obtain ⟨y588, hy588⟩ : ∃ y_ : List (List Int), y_ = (x3_1 ++ [t584]) := ⟨_, rfl⟩
   replace H : (impl_rounds.l0 k1 y588 a0_0 l0_1) = some r := hy_ hy588 H
   have Ny588 := Aside0.mk hy588
   clear hy588
   have H' := Aside0.mk H
   clear H
   obtain ⟨Ao23, co23, eo23⟩ := Kd.N_slice HO_3.out
   subst eo23
   have p583 : 0 ≤ ((ji12) : Int) := of_decide_eq_true as_
   have q583 : (ji12) < (x3_1.length : Int) := of_decide_eq_true as_
   obtain ⟨ad583, A583_0, c583_0, e583, hx583_0, hl583_0, hi583_0⟩ := at_L2 (Zn HO_3.out).2.2 (ji12) p583 q583
   cases e583
   obtain ⟨ce583, hce583, hMe583, hcc583⟩ := Kd.N_get HO_3.out [] (ji12) p583 (by first | exact q583 | exact of_decide_eq_true as_ | (have e_ := (Zn HO_3.out).1; omega))
   obtain ⟨ua583_0, uc583_0, rfl, ul583_0, ge583_0⟩ := Kd.FK_slice_open hMe583
   have hv583_0 := hcc583 0 _ rfl
   rw [Nat.add_zero, show ((Kd.slice 3 (Kd.int .i64))).sz = 1 from rfl, Nat.mul_one] at hv583_0
   replace hv583_0 := Option.some.inj (hv583_0.symm.trans hx583_0)
   injection hv583_0 with hva_ hvn_ hvc_
   rw [hva_] at ge583_0
   rw [hvc_] at ul583_0
   have HL583_0 := Aside0.mk (show Kd.V (Kd.int .i64) 3 _ w.heap.size _ _ (rd_L2 x3_1 (ji12)) from Kd.V_mk ul583_0 ge583_0)
   clear hva_ hvn_ hvc_ ge583_0 ul583_0
   clear hcc583 hce583
   have HR583_0 := Aside0.mk hi583_0
   have HC583_0 := Aside0.mk hl583_0
   clear hi583_0 hl583_0
   replace p583 := eq_true p583
   replace q583 := eq_true q583
   obtain ⟨hcz24_0, hcz24_1, hfz24_0, hfz24_1⟩ := c2_ BK575.out
   go_wp2_with (first | ((with_reducible refine Zf (f := 77) rfl ?_); refine ZC (some 20) rfl rfl Try.func77 (by kernel_rfl) rfl #[.agg #[.int .i64 a0_0, .slice A0_1 l0_1.length c0_1], .slice A583_0 (rd_L2 x3_1 (ji12)).length c583_0] rfl (by (try simp only [List.map_toArray, List.map_cons, List.map_nil]); first | done | (simp only [hji12]; rfl) | rfl | (simp only [List.length_drop, List.length_take]; rfl)) ?_; (with_reducible refine (impl_DefendedBy.calls k1 a0_0 _ _ l0_1 _ _ (rd_L2 x3_1 (ji12)) t584 _ ?side1 ?side2 ?side3 ?side4 A15.out).mono ?_); (case side1 => exact cb_ HR0_1.out); (case side2 => exact HC0_1.out); (case side3 => exact sA_ (cf_ HR583_0.out)); (case side4 => exact HC583_0.out); rintro e w25 ⟨v585, rfl, ho0, hb⟩; refine ⟨_, rfl, ?_⟩; replace HO_3 := Aside0.mk (Kd.N_elder' (rN_ HO_3.out) (Kd.R_base ho0) hb); replace HL583_0 := Aside0.mk (Kd.V_elder' (by (with_reducible repeat (first | apply ZQ | apply ZO | apply ZS)); exact HL583_0.out) (Kd.R_base ho0) hb); have HO586 := Aside0.mk (Kd.R_lower (Kd.R_newM (M := fun k_ => (w.heap.size ≤ k_)) ho0 (Ze hB_) (fun k_ h_ => h_)) (Ze hB_)); replace BK575 := Aside0.mk (Zd (bq_ BK575.out) hb); replace HR583_0 := Aside0.mk (Kd.C_below (cf_ HR583_0.out) hb); replace HB := Aside0.mk (Zc hB_ hb); (try clear hb); (try clear hk); (try clear ho0); obtain ⟨Ao26, co26, eo26⟩ := Kd.R_slice HO586.out; subst eo26) | ((with_reducible refine Zf (f := 76) rfl ?_); refine ZC (some 23) rfl rfl Try.func76 (by kernel_rfl) rfl #[.slice Ao26 t584.length co26, .slice A583_0 (rd_L2 x3_1 (ji12)).length c583_0] rfl (by (try simp only [List.map_toArray, List.map_cons, List.map_nil]); first | done | (simp only [hji12]; rfl) | rfl | (simp only [List.length_drop, List.length_take]; rfl)) ?_; (with_reducible refine (slices_Equal_int_int.calls k1 _ _ t584 _ _ (rd_L2 x3_1 (ji12)) false _ ?side1 ?side2 ?side3 ?side4 A16.out).mono ?_); (case side1 => exact sA_ (ZE HO586.out).2.2); (case side2 => exact (ZE HO586.out).2.1); (case side3 => exact sA_ (cf_ HR583_0.out)); (case side4 => exact HC583_0.out); rintro e w' ⟨rfl, ⟨nd, rfl⟩⟩; refine ⟨_, rfl, ?_⟩) | ((with_reducible refine gate_builtin (b := .append) (xs := #[.tmp 25, .tmp 27]) rfl ?_); at_builtin; refine Kd.N_append (Kd.slice 3 (Kd.int .i64)) (w0 := w) w.heap.size rfl (.tmp 25) (.tmp 27) 22 31 (.slice none 0 0) 24 rfl Try.underlying22 info31 rfl (by decide) (by omega) (.slice (some ad583) x3_1.length co23) x3_1 t584 [.slice Ao26 t584.length co26] (fun k_ => (w.heap.size ≤ k_) ∧ k_ ≠ gb575) (fun k_ => ((fun k_ => (w.heap.size ≤ k_) ∧ k_ ≠ gb575)) k_ ∧ some k_ ≠ (.slice (some ad583) x3_1.length co23 : Value).ownBlock) rfl rfl ?aP (fun _ hk => hk) ?aF ?aO ?aB ?aS ?aL ?_; (case aP => exact (Kd.FK_slice_mk (ZE (ZK (ok' := (fun k_ => ((fun k_ => (w.heap.size ≤ k_) ∧ k_ ≠ gb575)) k_ ∧ some k_ ≠ (.slice (some ad583) x3_1.length co23 : Value).ownBlock)) (Kd.R_types (ZN (HO586.out) (Kd.N_typed HO_3.out) (by decide)) BK575.out (by decide)) (fun k_ hk => ⟨⟨hk.1.1.1, hk.2⟩, hk.1.2⟩))).2.1 (Kd.R_F (ZK (ok' := (fun k_ => ((fun k_ => (w.heap.size ≤ k_) ∧ k_ ≠ gb575)) k_ ∧ some k_ ≠ (.slice (some ad583) x3_1.length co23 : Value).ownBlock)) (Kd.R_types (ZN (HO586.out) (Kd.N_typed HO_3.out) (by decide)) BK575.out (by decide)) (fun k_ hk => ⟨⟨hk.1.1.1, hk.2⟩, hk.1.2⟩))))); (case aB => exact hB_); (case aF => exact (fun k_ hk => ⟨(Nat.le_trans (Ze hB_) hk), Kd.freshB (bq_ BK575.out) k_ hk⟩)); (case aO => exact (by (with_reducible repeat (first | apply ZG | apply ZF | apply Zv)); exact ZB HO_3.out (fun _ hk => ⟨hk.1.1, hk.1.2⟩))); (case aS => exact (Ze hB_)); (case aL => have := LMc22.out; omega); intro v589 w27 ho hb hg hat; rw [← Ny588.out] at ho; have n0_ := Aside0.mk (ZJ (bq_ BK575.out) hg (Kd.N_ne HO_3.out BK575.out (by decide))); have n1_ := Aside0.mk (Kd.V_afterv (ok := (fun k_ => (w.heap.size ≤ k_) ∧ some k_ ≠ (.slice Ao26 t584.length co26 : Value).ownBlock ∧ k_ ≠ gb575)) (by (with_reducible repeat (first | apply ZQ | apply ZO | apply ZS)); exact ZR HL583_0.out (fun _ hk => ⟨⟨hk.1.1.1, ⟨hk.2, hk.1.1.2⟩⟩, hk.1.2⟩)) hg hat); have n2_ := Aside0.mk (hb); have n3_ := Aside0.mk (ho); clear BK575; clear HL583_0; clear HB; clear HO_3; clear HO586; have BK575 := n0_; have HL583_0 := n1_; have HB := n2_; have HO590 := n3_; clear n0_ n1_ n2_ n3_; clear ho hb hg hat))
   go_roundg k1
   case measure => have := HK1.out; omega
   case rel => exact ⟨(y588), H', ⟨by have := HK1.out; omega⟩, ⟨rN_ HO590.out⟩, ⟨bk_ BK575.out⟩, ⟨hB_⟩⟩

/-! ### impl_Grounded: function 27 -/
def impl_Grounded.f (k : Nat) (a0_0 : Int) (l0_1 : List (List Int)) : Option (List Int) := (impl_rounds.f k a0_0 l0_1).bind fun t592 => (if 0 ≤ (wrap64 ((t592.length : Int) - 1)) then (if (wrap64 ((t592.length : Int) - 1)) < (t592.length : Int) then (some (rd_L2 t592 (wrap64 ((t592.length : Int) - 1)))) else (none)) else (none))
theorem impl_Grounded.mono : ∀ a0 a1 k, LeO (impl_Grounded.f k a0 a1) (impl_Grounded.f (k + 1) a0 a1) := by
 intro a0 a1 k
 unfold impl_Grounded.f
 repeat' with_reducible first | apply impl_rounds.mono | apply Zy | apply Zg | refine Zl ?_ ?_ | refine Zh ?_ (fun _ => ?_)
theorem impl_Grounded.calls (k : Nat) (a0_0 : Int) (A0_1 : Option Addr) (c0_1 : Nat) (l0_1 : List (List Int)) (r : List Int) (w : World) (hr0_1 : Kd.C (Kd.slice 3 (Kd.int .i64)) w A0_1 l0_1.length l0_1) (hc0_1 : l0_1.length ≤ c0_1) (h : impl_Grounded.f k a0_0 l0_1 = some r) :
  Calls Try.prog 27 #[.agg #[.int .i64 a0_0, .slice A0_1 l0_1.length c0_1]] w fun e w' => ∃ v0_ : Value, e = .returned (v0_) ∧ Kd.V (Kd.int .i64) 3 w' w.heap.size (fun k_ => (w.heap.size ≤ k_)) v0_ r ∧ Below w.heap.size w w' := by
 have hu27 := Try.underlying27
 have HR0_1 := Aside0.mk hr0_1
 have HC0_1 := Aside0.mk hc0_1
 clear hr0_1 hc0_1
 have HB := Aside0.mk (Below.refl w.heap.size w)
 have H := h
 unfold impl_Grounded.f at H
 clear h
 obtain ⟨t592, A2, H⟩ := bd_ H
 try dsimp only at H
 obtain ⟨ji3, hji3⟩ : ∃ j_ : Int, (wrap64 ((t592.length : Int) - 1)) = j_ := ⟨_, rfl⟩
 replace H : (if 0 ≤ (ji3) then (if (ji3) < (t592.length : Int) then (some (rd_L2 t592 (ji3))) else (none)) else (none)) = some r := by first | (rw [hji3] at H; exact H) | (simp only [hji3] at H ⊢; exact H)
 (try rw [hji3] at A2)
 have hji3w : (IntKind.i64.wrap ((t592.length : Int) - 1)) = ji3 := (i64_w _).trans hji3
 by_cases c4 : 0 ≤ (ji3)
 rotate_left
 ·rw [if_neg c4] at H
  exact absurd H (by simp)
 rw [if_pos c4] at H
 have c4b0 : decide (0 ≤ (ji3)) = true := decide_eq_true c4
 clear c4
 by_cases c5 : (ji3) < (t592.length : Int)
 rotate_left
 ·rw [if_neg c5] at H
  exact absurd H (by simp)
 rw [if_pos c5] at H
 have c5b0 : decide ((ji3) < (t592.length : Int)) = true := decide_eq_true c5
 clear c5
 obtain rfl := Option.some.inj H
 go_enter Try.func27, Try.ntmps27
 go_wp2_with (first | ((with_reducible refine Zz (N := 1) rfl ?_); refine ZI ?hg (N := 1) ?hd (cs := #[.int .i64 a0_0, .slice A0_1 l0_1.length c0_1]) (t := 27) ?hr ?_; (case hd => rfl); (case hg => rfl); (case hr => first | (go_simp; done) | (go_simp; rfl)); intro gb591 hg w6 hbox hb; have BK591 := Aside0.mk (hbox); have GW591 := Aside0.mk ((hz_ hg : w.heap.size ≤ gb591)); have GE591 := Aside0.mk ((hz_ hg : w.heap.size ≤ gb591)); replace HB := Aside0.mk (Zc hB_ hb); clear hb hbox hg; obtain ⟨hcz7_0, hcz7_1, hfz7_0, hfz7_1⟩ := c2_ BK591.out) | ((with_reducible refine Zf (f := 78) rfl ?_); refine ZC (some 5) rfl rfl Try.func78 (by kernel_rfl) rfl #[.agg #[.int .i64 a0_0, .slice A0_1 l0_1.length c0_1]] rfl ar_ ?_; (with_reducible refine (impl_rounds.calls k a0_0 _ _ l0_1 t592 _ ?side1 ?side2 A2.out).mono ?_); (case side1 => exact cb_ HR0_1.out); (case side2 => exact HC0_1.out); rintro e w8 ⟨v593, rfl, ho0, hb⟩; refine ⟨_, rfl, ?_⟩; have HO594 := Aside0.mk (Kd.N_lower (ZB (ok' := fun k_ => (w.heap.size ≤ k_) ∧ k_ ≠ gb591) ho0 (fun k_ hk_ => ⟨(Nat.le_trans (Ze hB_) hk_), (Kd.freshB (bq_ BK591.out) k_ hk_)⟩)) (Ze hB_)); replace BK591 := Aside0.mk (Zd (bq_ BK591.out) hb); replace HB := Aside0.mk (Zc hB_ hb); (try clear hb); (try clear ho0); obtain ⟨Ao9, co9, eo9⟩ := Kd.N_slice HO594.out; subst eo9; have p595 : 0 ≤ ((ji3) : Int) := of_decide_eq_true as_; have q595 : (ji3) < (t592.length : Int) := of_decide_eq_true as_; obtain ⟨ad595, A595_0, c595_0, e595, hx595_0, hl595_0, hi595_0⟩ := at_L2 (Zn HO594.out).2.2 (ji3) p595 q595; cases e595; obtain ⟨ce595, hce595, hMe595, hcc595⟩ := Kd.N_get HO594.out [] (ji3) p595 (by first | exact q595 | exact of_decide_eq_true as_ | (have e_ := (Zn HO594.out).1; omega)); obtain ⟨ua595_0, uc595_0, rfl, ul595_0, ge595_0⟩ := Kd.FK_slice_open hMe595; have hv595_0 := hcc595 0 _ rfl; rw [Nat.add_zero, show ((Kd.slice 3 (Kd.int .i64))).sz = 1 from rfl, Nat.mul_one] at hv595_0; replace hv595_0 := Option.some.inj (hv595_0.symm.trans hx595_0); injection hv595_0 with hva_ hvn_ hvc_; rw [hva_] at ge595_0; rw [hvc_] at ul595_0; have HL595_0 := Aside0.mk (show Kd.V (Kd.int .i64) 3 _ w.heap.size _ _ (rd_L2 t592 (ji3)) from Kd.V_mk ul595_0 ge595_0); clear hva_ hvn_ hvc_ ge595_0 ul595_0; clear hcc595 hce595; have HR595_0 := Aside0.mk hi595_0; have HC595_0 := Aside0.mk hl595_0; clear hi595_0 hl595_0; replace p595 := eq_true p595; replace q595 := eq_true q595))
 go_ret
 exact ⟨_, by first | rfl | (simp [errW_none, errW_some] <;> rfl) | (simp only [← hji3]; first | rfl | (simp [errW_none, errW_some] <;> rfl)) | (simp [*, errW_none, errW_some] <;> rfl), by (with_reducible repeat (first | apply ZQ | apply ZO | apply ZS)); exact ZR HL595_0.out (fun _ hk => hk.1.1), hB_⟩

/-! ### laws_sameInts: function 28 -/
def laws_sameInts.l0 : Nat → List Int → List Int → Int → Option (Bool)
 | 0, _, _, _ => none
 | k + 1, x0, x1, x5 => if x5 < (x0.length : Int) then (if 0 ≤ x5 then (if x5 < (x1.length : Int) then (if (rd x0 x5) = (rd x1 x5) then (laws_sameInts.l0 k x0 x1 (wrap64 (x5 + 1))) else (some false)) else (none)) else (none)) else (some true)
def laws_sameInts.f (k : Nat) (l0 : List Int) (l1 : List Int) : Option (Bool) := if (l0.length : Int) = (l1.length : Int) then (laws_sameInts.l0 k l0 l1 0) else (some false)
theorem laws_sameInts.mono_l : ∀ k, (∀ y0 y1 y2, LeO (laws_sameInts.l0 k y0 y1 y2) (laws_sameInts.l0 (k + 1) y0 y1 y2))
 | 0 => fun _ _ _ r h => by simp [laws_sameInts.l0] at h
 | k + 1 => by
  have ih0 := laws_sameInts.mono_l k
  ·intro y0 y1 y2
   unfold laws_sameInts.l0
   repeat' with_reducible first | apply ih0 | apply Zy | apply Zg | refine Zl ?_ ?_ | refine Zh ?_ (fun _ => ?_)
theorem laws_sameInts.mono : ∀ a0 a1 k, LeO (laws_sameInts.f k a0 a1) (laws_sameInts.f (k + 1) a0 a1) := by
 intro a0 a1 k
 have ih0 := laws_sameInts.mono_l k
 unfold laws_sameInts.f
 repeat' with_reducible first | apply ih0 | apply Zy | apply Zg | refine Zl ?_ ?_ | refine Zh ?_ (fun _ => ?_)
theorem laws_sameInts.calls (k : Nat) (A0 : Option Addr) (c0 : Nat) (l0 : List Int) (A1 : Option Addr) (c1 : Nat) (l1 : List Int) (r : Bool) (w : World) (hr0 : Kd.C (Kd.int .i64) w A0 l0.length l0) (hc0 : l0.length ≤ c0) (hr1 : Kd.C (Kd.int .i64) w A1 l1.length l1) (hc1 : l1.length ≤ c1) (h : laws_sameInts.f k l0 l1 = some r) :
  Calls Try.prog 28 #[.slice A0 l0.length c0, .slice A1 l1.length c1] w fun e w' => e = .returned (.bool r) ∧ Drawn0 w w' := by
 have HR0 := Aside0.mk hr0
 have HC0 := Aside0.mk hc0
 clear hr0 hc0
 have HR1 := Aside0.mk hr1
 have HC1 := Aside0.mk hc1
 clear hr1 hc1
 have H := h
 unfold laws_sameInts.f at H
 clear h
 by_cases c3 : (l0.length : Int) = (l1.length : Int)
 rotate_left
 ·rw [if_neg c3] at H
  have c3b0 : ((l0.length : Int) == (l1.length : Int)) = false := beq_eq_false_iff_ne.mpr c3
  have c3b1 : ((l0.length : Int) != (l1.length : Int)) = true := bne_iff_ne.mpr c3
  have c3b2 : (l0.length == l1.length) = false := by first | simpa using c3 | (simp at c3 ⊢; omega)
  obtain rfl := Option.some.inj H
  go_enter Try.func28, Try.ntmps28
  go_wp2
  repeat (go_quiet (fail); try go_wp2)
  go_ret
  exact ⟨sm_, dr_⟩
 rw [if_pos c3] at H
 have c3b0 : ((l0.length : Int) == (l1.length : Int)) = true := beq_iff_eq.mpr c3
 have c3b1 : ((l0.length : Int) != (l1.length : Int)) = false := bne_eq_false_iff_eq.mpr c3
 have c3b2 : (l0.length == l1.length) = true := by first | simpa using c3 | (simp at c3 ⊢; omega)
 clear c3
 have H' := Aside0.mk H
 clear H
 go_enter Try.func28, Try.ntmps28
 go_wp2
 repeat (go_quiet (fail); try go_wp2)
 go_loopg [5] k (fun kq v5 w' => ∃ (x5_1 : Int), v5 = .int .i64 x5_1 ∧ Aside0 (laws_sameInts.l0 kq l0 l1 x5_1 = some r) ∧ Aside0 (kq ≤ k) ∧ Drawn0 w w')
 case atStart => exact ⟨(0), sm_, H', ⟨Nat.le_refl _⟩, dr_⟩
 case round =>
  clear H'
  try clear c1
  try clear c2
  try clear p2
  try clear c3
  try clear c3b0
  try clear c3b1
  try clear c3b2
  obtain ⟨x5_1, rfl, HA, HK1, ⟨m1, rfl⟩⟩ := hrel
  cases gk with
  | zero => exact absurd HA.out (by simp [laws_sameInts.l0])
  | succ k1 =>
   have H := HA.out
   clear HA
   simp only [laws_sameInts.l0] at H
   by_cases c4 : x5_1 < (l0.length : Int)
   rotate_left
   ·rw [if_neg c4] at H
    have c4b0 : decide (x5_1 < (l0.length : Int)) = false := decide_eq_false c4
    clear c4
    obtain rfl := Option.some.inj H
    go_wp2
    repeat (go_quiet (fail); try go_wp2)
    go_ret
    exact ⟨sm_, dr_⟩
   rw [if_pos c4] at H
   have c4b0 : decide (x5_1 < (l0.length : Int)) = true := decide_eq_true c4
   clear c4
   by_cases c5 : 0 ≤ x5_1
   rotate_left
   ·rw [if_neg c5] at H
    exact absurd H (by simp)
   rw [if_pos c5] at H
   have c5b0 : decide (0 ≤ x5_1) = true := decide_eq_true c5
   clear c5
   by_cases c6 : x5_1 < (l1.length : Int)
   rotate_left
   ·rw [if_neg c6] at H
    exact absurd H (by simp)
   rw [if_pos c6] at H
   have c6b0 : decide (x5_1 < (l1.length : Int)) = true := decide_eq_true c6
   clear c6
   by_cases c7 : (rd l0 x5_1) = (rd l1 x5_1)
   rotate_left
   ·rw [if_neg c7] at H
    have c7b0 : ((rd l0 x5_1) == (rd l1 x5_1)) = false := beq_eq_false_iff_ne.mpr c7
    have c7b1 : ((rd l0 x5_1) != (rd l1 x5_1)) = true := bne_iff_ne.mpr c7
    obtain rfl := Option.some.inj H
    have p596 : 0 ≤ (x5_1 : Int) := of_decide_eq_true as_
    have q596 : x5_1 < (l0.length : Int) := of_decide_eq_true as_
    obtain ⟨ad596, e596, hx596_0⟩ := Zo HR0.out x5_1 p596 q596
    cases e596
    replace p596 := eq_true p596
    replace q596 := eq_true q596
    have p597 : 0 ≤ (x5_1 : Int) := of_decide_eq_true as_
    have q597 : x5_1 < (l1.length : Int) := of_decide_eq_true as_
    obtain ⟨ad597, e597, hx597_0⟩ := Zo HR1.out x5_1 p597 q597
    cases e597
    replace p597 := eq_true p597
    replace q597 := eq_true q597
    go_wp2
    repeat (go_quiet (fail); try go_wp2)
    go_ret
    exact ⟨sm_, dr_⟩
   rw [if_pos c7] at H
   have c7b0 : ((rd l0 x5_1) == (rd l1 x5_1)) = true := beq_iff_eq.mpr c7
   have c7b1 : ((rd l0 x5_1) != (rd l1 x5_1)) = false := bne_eq_false_iff_eq.mpr c7
   clear c7
   have H' := Aside0.mk H
   clear H
   have p596 : 0 ≤ (x5_1 : Int) := of_decide_eq_true as_
   have q596 : x5_1 < (l0.length : Int) := of_decide_eq_true as_
   obtain ⟨ad596, e596, hx596_0⟩ := Zo HR0.out x5_1 p596 q596
   cases e596
   replace p596 := eq_true p596
   replace q596 := eq_true q596
   have p597 : 0 ≤ (x5_1 : Int) := of_decide_eq_true as_
   have q597 : x5_1 < (l1.length : Int) := of_decide_eq_true as_
   obtain ⟨ad597, e597, hx597_0⟩ := Zo HR1.out x5_1 p597 q597
   cases e597
   replace p597 := eq_true p597
   replace q597 := eq_true q597
   go_wp2
   repeat (go_quiet (fail); try go_wp2)
   go_roundg k1
   case measure => have := HK1.out; omega
   case rel => exact ⟨(wrap64 (x5_1 + 1)), sm_, H', ⟨by have := HK1.out; omega⟩, dr_⟩

end Go.Proofs.Ytdlobolnajcfnaa.PFnPositions
