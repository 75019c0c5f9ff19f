-- Written by a program of this session (hooks of mine on the print): Lean checks it.
import Derived.Test.YtdlobolnajcfnaaPFnPositionsx0
import Derived.Test.YtdlobolnajcfnaaPFnPositionsx6
import Derived.Test.YtdlobolnajcfnaaPFnPositionsx7
import Derived.Test.YtdlobolnajcfnaaPFnPositionsx8
namespace Go.Proofs.Ytdlobolnajcfnaa.PFnPositions
open Go.RowKit Go.Proofs.YtdlobolnajcfnaaW.PrintWords Go.Proofs.YtdlobolnajcfnaaW.PrintLast Go.Proofs.YtdlobolnajcfnaaW.PrintMore
attribute [local go_sem] max2_int min2_int max_two min_two max_three min_three max_four min_four   -- for this text's walks alone
set_option linter.unusedVariables false
set_option linter.unusedSimpArgs false
set_option maxHeartbeats 8000000
set_option maxRecDepth 100000

/-! ### impl_IsFree: function 75 -/
def impl_IsFree.l0 : Nat → List Int → List Int → Int → Int → Option (Bool)
 | 0, _, _, _, _ => none
 | k + 1, x1, x13, x14, x15 => if x15 < x14 then (if 0 ≤ x15 then (if x15 < (x13.length : Int) then ((slices_Contains_int_int.f k x1 (rd x13 x15)).bind fun t357 => (if t357 = true then (some false) else (impl_IsFree.l0 k x1 x13 x14 (wrap64 (x15 + 1))))) else (none)) else (none)) else (some true)
def impl_IsFree.f (k : Nat) (a0_0 : Int) (l0_1 : List (List Int)) (l1 : List Int) : Option (Bool) := (impl_IsSet.f k a0_0 l0_1 l1).bind fun t352 => (if t352 = true then ((impl_HitBy.f k a0_0 l0_1 l1).bind fun t353 => (impl_IsFree.l0 k l1 t353 (t353.length : Int) 0)) else (some false))
theorem impl_IsFree.mono_l : ∀ k, (∀ y0 y1 y2 y3, LeO (impl_IsFree.l0 k y0 y1 y2 y3) (impl_IsFree.l0 (k + 1) y0 y1 y2 y3))
 | 0 => fun _ _ _ _ r h => by simp [impl_IsFree.l0] at h
 | k + 1 => by
  have ih0 := impl_IsFree.mono_l k
  ·intro y0 y1 y2 y3
   unfold impl_IsFree.l0
   repeat' with_reducible first | apply ih0 | apply impl_HitBy.mono | apply impl_IsSet.mono | apply slices_Contains_int_int.mono | apply Zy | apply Zg | refine Zl ?_ ?_ | refine Zh ?_ (fun _ => ?_)
theorem impl_IsFree.mono : ∀ a0 a1 a2 k, LeO (impl_IsFree.f k a0 a1 a2) (impl_IsFree.f (k + 1) a0 a1 a2) := by
 intro a0 a1 a2 k
 have ih0 := impl_IsFree.mono_l k
 unfold impl_IsFree.f
 repeat' with_reducible first | apply ih0 | apply impl_HitBy.mono | apply impl_IsSet.mono | apply slices_Contains_int_int.mono | apply Zy | apply Zg | refine Zl ?_ ?_ | refine Zh ?_ (fun _ => ?_)
theorem impl_IsFree.calls (k : Nat) (a0_0 : Int) (A0_1 : Option Addr) (c0_1 : Nat) (l0_1 : List (List Int)) (A1 : Option Addr) (c1 : Nat) (l1 : List Int) (r : Bool) (w : World) (hr0_1 : Kd.C (Kd.slice 3 (Kd.int .i64)) w A0_1 l0_1.length l0_1) (hc0_1 : l0_1.length ≤ c0_1) (hr1 : Kd.C (Kd.int .i64) w A1 l1.length l1) (hc1 : l1.length ≤ c1) (h : impl_IsFree.f k a0_0 l0_1 l1 = some r) :
  Calls Try.prog 75 #[.agg #[.int .i64 a0_0, .slice A0_1 l0_1.length c0_1], .slice A1 l1.length c1] w fun e w' => e = .returned (.bool r) ∧ Below w.heap.size w w' := by
 have hu27 := Try.underlying27
 have HR0_1 := Aside0.mk hr0_1
 have HC0_1 := Aside0.mk hc0_1
 clear hr0_1 hc0_1
 have HR1 := Aside0.mk hr1
 have HC1 := Aside0.mk hc1
 clear hr1 hc1
 have HB := Aside0.mk (Below.refl w.heap.size w)
 have H := h
 unfold impl_IsFree.f at H
 clear h
 obtain ⟨t352, A3, H⟩ := bd_ H
 try dsimp only at H
 by_cases c4 : t352 = true
 rotate_left
 ·replace c4 := Bool.eq_false_iff.mpr c4
  subst c4
  rw [if_neg (show ¬ (false = true) by decide)] at H
  try dsimp only at H
  obtain rfl := Option.some.inj H
  go_enter Try.func75, Try.ntmps75
  go_wp2_with (first | ((with_reducible refine Zz (N := 2) rfl ?_); refine ZI ?hg (N := 2) ?hd (cs := #[.int .i64 a0_0, .slice A0_1 l0_1.length c0_1]) (t := 27) ?hr ?_; (case hd => rfl); (case hg => rfl); (case hr => first | (go_simp; done) | (go_simp; rfl)); intro gb351 hg w17 hbox hb; have BK351 := Aside0.mk (hbox); have GW351 := Aside0.mk ((hz_ hg : w.heap.size ≤ gb351)); have GE351 := Aside0.mk ((hz_ hg : w.heap.size ≤ gb351)); replace HB := Aside0.mk (Zc hB_ hb); clear hb hbox hg; obtain ⟨hcz18_0, hcz18_1, hfz18_0, hfz18_1⟩ := c2_ BK351.out) | ((with_reducible refine Zf (f := 90) rfl ?_); refine ZC (some 9) rfl rfl Try.func90 (by kernel_rfl) rfl #[.agg #[.int .i64 a0_0, .slice A0_1 l0_1.length c0_1], .slice A1 l1.length c1] rfl ar_ ?_; (with_reducible refine (impl_IsSet.calls k a0_0 _ _ l0_1 _ _ l1 false _ ?side1 ?side2 ?side3 ?side4 A3.out).mono ?_); (case side1 => exact cb_ HR0_1.out); (case side2 => exact HC0_1.out); (case side3 => exact cb_ HR1.out); (case side4 => exact HC1.out); rintro e w19 ⟨rfl, hb⟩; refine ⟨_, rfl, ?_⟩; replace BK351 := Aside0.mk (Zd (bq_ BK351.out) hb); replace HB := Aside0.mk (Zc hB_ hb); (try clear hb)))
  go_ret
  exact ⟨er_, hB_⟩
 subst c4
 rw [if_pos rfl] at H
 try dsimp only at H
 obtain ⟨t353, A5, H⟩ := bd_ H
 try dsimp only at H
 have H' := Aside0.mk H
 clear H
 go_enter Try.func75, Try.ntmps75
 go_wp2_with (first | ((with_reducible refine Zz (N := 2) rfl ?_); refine ZI ?hg (N := 2) ?hd (cs := #[.int .i64 a0_0, .slice A0_1 l0_1.length c0_1]) (t := 27) ?hr ?_; (case hd => rfl); (case hg => rfl); (case hr => first | (go_simp; done) | (go_simp; rfl)); intro gb351 hg w6 hbox hb; have BK351 := Aside0.mk (hbox); have GW351 := Aside0.mk ((hz_ hg : w.heap.size ≤ gb351)); have GE351 := Aside0.mk ((hz_ hg : w.heap.size ≤ gb351)); replace HB := Aside0.mk (Zc hB_ hb); clear hb hbox hg; obtain ⟨hcz7_0, hcz7_1, hfz7_0, hfz7_1⟩ := c2_ BK351.out) | ((with_reducible refine Zf (f := 90) rfl ?_); refine ZC (some 9) rfl rfl Try.func90 (by kernel_rfl) rfl #[.agg #[.int .i64 a0_0, .slice A0_1 l0_1.length c0_1], .slice A1 l1.length c1] rfl ar_ ?_; (with_reducible refine (impl_IsSet.calls k a0_0 _ _ l0_1 _ _ l1 true _ ?side1 ?side2 ?side3 ?side4 A3.out).mono ?_); (case side1 => exact cb_ HR0_1.out); (case side2 => exact HC0_1.out); (case side3 => exact cb_ HR1.out); (case side4 => exact HC1.out); rintro e w8 ⟨rfl, hb⟩; refine ⟨_, rfl, ?_⟩; replace BK351 := Aside0.mk (Zd (bq_ BK351.out) hb); replace HB := Aside0.mk (Zc hB_ hb); (try clear hb); obtain ⟨hcz9_0, hcz9_1, hfz9_0, hfz9_1⟩ := c2_ BK351.out) | ((with_reducible refine Zf (f := 114) rfl ?_); refine ZC (some 13) rfl rfl Try.func114 (by kernel_rfl) rfl #[.agg #[.int .i64 a0_0, .slice A0_1 l0_1.length c0_1], .slice A1 l1.length c1] rfl ar_ ?_; (with_reducible refine (impl_HitBy.calls k a0_0 _ _ l0_1 _ _ l1 t353 _ ?side1 ?side2 ?side3 ?side4 A5.out).mono ?_); (case side1 => exact cb_ HR0_1.out); (case side2 => exact HC0_1.out); (case side3 => exact cb_ HR1.out); (case side4 => exact HC1.out); rintro e w10 ⟨v354, rfl, ho0, hb⟩; refine ⟨_, rfl, ?_⟩; have HO355 := Aside0.mk (Kd.R_lower ho0 (Ze hB_)); replace BK351 := Aside0.mk (Zd (bq_ BK351.out) hb); replace HB := Aside0.mk (Zc hB_ hb); (try clear hb); (try clear ho0); obtain ⟨Ao11, co11, eo11⟩ := Kd.R_slice HO355.out; subst eo11))
 go_loopg [15] k (fun kq v15 w' => ∃ (x15_1 : Int), v15 = .int .i64 x15_1 ∧ Aside0 (impl_IsFree.l0 kq l1 t353 (t353.length : Int) x15_1 = some r) ∧ Aside0 (kq ≤ k) ∧ Aside0 (Kd.R (Kd.int .i64) 3 w' w.heap.size (fun _ => True) (.slice Ao11 t353.length co11) t353) ∧ Aside0 (w'.heap[gb351]? = some (.cells #[.int .i64 a0_0, (.slice A0_1 l0_1.length c0_1)] 27 (0, 0))) ∧ Aside0 (Below w.heap.size w w'))
 case atStart => exact ⟨(0), sm_, H', ⟨Nat.le_refl _⟩, ⟨rR_ HO355.out⟩, ⟨bk_ BK351.out⟩, ⟨hB_⟩⟩
 case round =>
  clear H'
  try clear c1
  try clear p2
  try clear c4
  try clear c7
  try clear c9
  try clear c11
  try clear hcz7_0
  try clear hcz7_1
  try clear hcz9_0
  try clear hcz9_1
  try clear hfz7_0
  try clear hfz7_1
  try clear hfz9_0
  try clear hfz9_1
  obtain ⟨x15_1, rfl, HA, HK1, HO_13, BK351, HB⟩ := hrel
  cases gk with
  | zero => exact absurd HA.out (by simp [impl_IsFree.l0])
  | succ k1 =>
   have H := HA.out
   clear HA
   simp only [impl_IsFree.l0] at H
   by_cases c12 : x15_1 < (t353.length : Int)
   rotate_left
   ·rw [if_neg c12] at H
    have c12b0 : decide (x15_1 < (t353.length : Int)) = false := decide_eq_false c12
    clear c12
    obtain rfl := Option.some.inj H
    go_wp2
    go_ret
    exact ⟨er_, hB_⟩
   rw [if_pos c12] at H
   have c12b0 : decide (x15_1 < (t353.length : Int)) = true := decide_eq_true c12
   clear c12
   by_cases c13 : 0 ≤ x15_1
   rotate_left
   ·rw [if_neg c13] at H
    exact absurd H (by simp)
   rw [if_pos c13] at H
   have c13b0 : decide (0 ≤ x15_1) = true := decide_eq_true c13
   clear c13
   by_cases c14 : x15_1 < (t353.length : Int)
   rotate_left
   ·rw [if_neg c14] at H
    exact absurd H (by simp)
   rw [if_pos c14] at H
   have c14b0 : decide (x15_1 < (t353.length : Int)) = true := decide_eq_true c14
   clear c14
   obtain ⟨t357, A15, H⟩ := bd_ H
   try dsimp only at H
   by_cases c16 : t357 = true
   ·subst c16
    rw [if_pos rfl] at H
    try dsimp only at H
    obtain rfl := Option.some.inj H
    have p356 : 0 ≤ (x15_1 : Int) := of_decide_eq_true as_
    have q356 : x15_1 < (t353.length : Int) := of_decide_eq_true as_
    obtain ⟨ad356, e356, hx356_0⟩ := Zo (ZE HO_13.out).2.2 x15_1 p356 q356
    cases e356
    replace p356 := eq_true p356
    replace q356 := eq_true q356
    go_wp2_with (first | ((with_reducible refine Zf (f := 80) rfl ?_); refine ZC (some 21) rfl rfl Try.func80 (by kernel_rfl) rfl #[.slice A1 l1.length c1, .int .i64 (rd t353 x15_1)] rfl ar_ ?_; (with_reducible refine (slices_Contains_int_int.calls k1 _ _ l1 (rd t353 x15_1) true _ ?side1 ?side2 A15.out).mono ?_); (case side1 => exact cb_ HR1.out); (case side2 => exact HC1.out); rintro e w' ⟨rfl, ⟨nd, rfl⟩⟩; refine ⟨_, rfl, ?_⟩))
    go_ret
    exact ⟨er_, hB_⟩
   replace c16 := Bool.eq_false_iff.mpr c16
   subst c16
   rw [if_neg (show ¬ (false = true) by decide)] at H
   try dsimp only at H
   have H' := Aside0.mk H
   clear H
   have p356 : 0 ≤ (x15_1 : Int) := of_decide_eq_true as_
   have q356 : x15_1 < (t353.length : Int) := of_decide_eq_true as_
   obtain ⟨ad356, e356, hx356_0⟩ := Zo (ZE HO_13.out).2.2 x15_1 p356 q356
   cases e356
   replace p356 := eq_true p356
   replace q356 := eq_true q356
   go_wp2_with (first | ((with_reducible refine Zf (f := 80) rfl ?_); refine ZC (some 21) rfl rfl Try.func80 (by kernel_rfl) rfl #[.slice A1 l1.length c1, .int .i64 (rd t353 x15_1)] rfl ar_ ?_; (with_reducible refine (slices_Contains_int_int.calls k1 _ _ l1 (rd t353 x15_1) false _ ?side1 ?side2 A15.out).mono ?_); (case side1 => exact cb_ HR1.out); (case side2 => exact HC1.out); rintro e w' ⟨rfl, ⟨nd, rfl⟩⟩; refine ⟨_, rfl, ?_⟩))
   go_roundg k1
   case measure => have := HK1.out; omega
   case rel => exact ⟨(wrap64 (x15_1 + 1)), sm_, H', ⟨by have := HK1.out; omega⟩, ⟨rR_ HO_13.out⟩, ⟨bk_ BK351.out⟩, ⟨hB_⟩⟩

/-! ### slices_Equal_int_int: function 76 -/
def slices_Equal_int_int.l0 : Nat → List Int → List Int → Int → Int → Option (Bool)
 | 0, _, _, _, _ => none
 | k + 1, x0, x1, x12, x13 => if x13 < x12 then (if 0 ≤ x13 then (if x13 < (x0.length : Int) then (if x13 < (x1.length : Int) then (if (rd x0 x13) = (rd x1 x13) then (slices_Equal_int_int.l0 k x0 x1 x12 (wrap64 (x13 + 1))) else (some false)) else (none)) else (none)) else (none)) else (some true)
def slices_Equal_int_int.f (k : Nat) (l0 : List Int) (l1 : List Int) : Option (Bool) := if (l0.length : Int) = (l1.length : Int) then (slices_Equal_int_int.l0 k l0 l1 (l0.length : Int) 0) else (some false)
theorem slices_Equal_int_int.mono_l : ∀ k, (∀ y0 y1 y2 y3, LeO (slices_Equal_int_int.l0 k y0 y1 y2 y3) (slices_Equal_int_int.l0 (k + 1) y0 y1 y2 y3))
 | 0 => fun _ _ _ _ r h => by simp [slices_Equal_int_int.l0] at h
 | k + 1 => by
  have ih0 := slices_Equal_int_int.mono_l k
  ·intro y0 y1 y2 y3
   unfold slices_Equal_int_int.l0
   repeat' with_reducible first | apply ih0 | apply Zy | apply Zg | refine Zl ?_ ?_ | refine Zh ?_ (fun _ => ?_)
theorem slices_Equal_int_int.mono : ∀ a0 a1 k, LeO (slices_Equal_int_int.f k a0 a1) (slices_Equal_int_int.f (k + 1) a0 a1) := by
 intro a0 a1 k
 have ih0 := slices_Equal_int_int.mono_l k
 unfold slices_Equal_int_int.f
 repeat' with_reducible first | apply ih0 | apply Zy | apply Zg | refine Zl ?_ ?_ | refine Zh ?_ (fun _ => ?_)
theorem slices_Equal_int_int.calls (k : Nat) (A0 : Option Addr) (c0 : Nat) (l0 : List Int) (A1 : Option Addr) (c1 : Nat) (l1 : List Int) (r : Bool) (w : World) (hr0 : Kd.C (Kd.int .i64) w A0 l0.length l0) (hc0 : l0.length ≤ c0) (hr1 : Kd.C (Kd.int .i64) w A1 l1.length l1) (hc1 : l1.length ≤ c1) (h : slices_Equal_int_int.f k l0 l1 = some r) :
  Calls Try.prog 76 #[.slice A0 l0.length c0, .slice A1 l1.length c1] w fun e w' => e = .returned (.bool r) ∧ Drawn0 w w' := by
 have HR0 := Aside0.mk hr0
 have HC0 := Aside0.mk hc0
 clear hr0 hc0
 have HR1 := Aside0.mk hr1
 have HC1 := Aside0.mk hc1
 clear hr1 hc1
 have H := h
 unfold slices_Equal_int_int.f at H
 clear h
 by_cases c3 : (l0.length : Int) = (l1.length : Int)
 rotate_left
 ·rw [if_neg c3] at H
  have c3b0 : ((l0.length : Int) == (l1.length : Int)) = false := beq_eq_false_iff_ne.mpr c3
  have c3b1 : ((l0.length : Int) != (l1.length : Int)) = true := bne_iff_ne.mpr c3
  have c3b2 : (l0.length == l1.length) = false := by first | simpa using c3 | (simp at c3 ⊢; omega)
  obtain rfl := Option.some.inj H
  go_enter Try.func76, Try.ntmps76
  go_wp2
  repeat (go_quiet (fail); try go_wp2)
  go_ret
  exact ⟨sm_, dr_⟩
 rw [if_pos c3] at H
 have c3b0 : ((l0.length : Int) == (l1.length : Int)) = true := beq_iff_eq.mpr c3
 have c3b1 : ((l0.length : Int) != (l1.length : Int)) = false := bne_eq_false_iff_eq.mpr c3
 have c3b2 : (l0.length == l1.length) = true := by first | simpa using c3 | (simp at c3 ⊢; omega)
 clear c3
 have H' := Aside0.mk H
 clear H
 go_enter Try.func76, Try.ntmps76
 go_wp2
 repeat (go_quiet (fail); try go_wp2)
 go_loopg [13] k (fun kq v13 w' => ∃ (x13_1 : Int), v13 = .int .i64 x13_1 ∧ Aside0 (slices_Equal_int_int.l0 kq l0 l1 (l0.length : Int) x13_1 = some r) ∧ Aside0 (kq ≤ k) ∧ Drawn0 w w')
 case atStart => exact ⟨(0), sm_, H', ⟨Nat.le_refl _⟩, dr_⟩
 case round =>
  clear H'
  try clear c1
  try clear p2
  try clear c3
  try clear c3b0
  try clear c3b1
  try clear c3b2
  obtain ⟨x13_1, rfl, HA, HK1, ⟨m1, rfl⟩⟩ := hrel
  cases gk with
  | zero => exact absurd HA.out (by simp [slices_Equal_int_int.l0])
  | succ k1 =>
   have H := HA.out
   clear HA
   simp only [slices_Equal_int_int.l0] at H
   by_cases c4 : x13_1 < (l0.length : Int)
   rotate_left
   ·rw [if_neg c4] at H
    have c4b0 : decide (x13_1 < (l0.length : Int)) = false := decide_eq_false c4
    clear c4
    obtain rfl := Option.some.inj H
    go_wp2
    repeat (go_quiet (fail); try go_wp2)
    go_ret
    exact ⟨sm_, dr_⟩
   rw [if_pos c4] at H
   have c4b0 : decide (x13_1 < (l0.length : Int)) = true := decide_eq_true c4
   clear c4
   by_cases c5 : 0 ≤ x13_1
   rotate_left
   ·rw [if_neg c5] at H
    exact absurd H (by simp)
   rw [if_pos c5] at H
   have c5b0 : decide (0 ≤ x13_1) = true := decide_eq_true c5
   clear c5
   by_cases c6 : x13_1 < (l0.length : Int)
   rotate_left
   ·rw [if_neg c6] at H
    exact absurd H (by simp)
   rw [if_pos c6] at H
   have c6b0 : decide (x13_1 < (l0.length : Int)) = true := decide_eq_true c6
   clear c6
   by_cases c7 : x13_1 < (l1.length : Int)
   rotate_left
   ·rw [if_neg c7] at H
    exact absurd H (by simp)
   rw [if_pos c7] at H
   have c7b0 : decide (x13_1 < (l1.length : Int)) = true := decide_eq_true c7
   clear c7
   by_cases c8 : (rd l0 x13_1) = (rd l1 x13_1)
   rotate_left
   ·rw [if_neg c8] at H
    have c8b0 : ((rd l0 x13_1) == (rd l1 x13_1)) = false := beq_eq_false_iff_ne.mpr c8
    have c8b1 : ((rd l0 x13_1) != (rd l1 x13_1)) = true := bne_iff_ne.mpr c8
    obtain rfl := Option.some.inj H
    have p358 : 0 ≤ (x13_1 : Int) := of_decide_eq_true as_
    have q358 : x13_1 < (l0.length : Int) := of_decide_eq_true as_
    obtain ⟨ad358, e358, hx358_0⟩ := Zo HR0.out x13_1 p358 q358
    cases e358
    replace p358 := eq_true p358
    replace q358 := eq_true q358
    have p359 : 0 ≤ (x13_1 : Int) := of_decide_eq_true as_
    have q359 : x13_1 < (l1.length : Int) := of_decide_eq_true as_
    obtain ⟨ad359, e359, hx359_0⟩ := Zo HR1.out x13_1 p359 q359
    cases e359
    replace p359 := eq_true p359
    replace q359 := eq_true q359
    go_wp2
    repeat (go_quiet (fail); try go_wp2)
    go_ret
    exact ⟨sm_, dr_⟩
   rw [if_pos c8] at H
   have c8b0 : ((rd l0 x13_1) == (rd l1 x13_1)) = true := beq_iff_eq.mpr c8
   have c8b1 : ((rd l0 x13_1) != (rd l1 x13_1)) = false := bne_eq_false_iff_eq.mpr c8
   clear c8
   have H' := Aside0.mk H
   clear H
   have p358 : 0 ≤ (x13_1 : Int) := of_decide_eq_true as_
   have q358 : x13_1 < (l0.length : Int) := of_decide_eq_true as_
   obtain ⟨ad358, e358, hx358_0⟩ := Zo HR0.out x13_1 p358 q358
   cases e358
   replace p358 := eq_true p358
   replace q358 := eq_true q358
   have p359 : 0 ≤ (x13_1 : Int) := of_decide_eq_true as_
   have q359 : x13_1 < (l1.length : Int) := of_decide_eq_true as_
   obtain ⟨ad359, e359, hx359_0⟩ := Zo HR1.out x13_1 p359 q359
   cases e359
   replace p359 := eq_true p359
   replace q359 := eq_true q359
   go_wp2
   repeat (go_quiet (fail); try go_wp2)
   go_roundg k1
   case measure => have := HK1.out; omega
   case rel => exact ⟨(wrap64 (x13_1 + 1)), sm_, H', ⟨by have := HK1.out; omega⟩, dr_⟩

/-! ### impl_AttackersOf: function 40 -/
def impl_AttackersOf.l0 : Nat → Int → List Int → List (List Int) → Int → Int → Option (List Int)
 | 0, _, _, _, _, _ => none
 | k + 1, x1, x5, x14, x15, x16 => if x16 < x15 then (if 0 ≤ x16 then (if x16 < (x14.length : Int) then (if 1 < ((rd_L2 x14 x16).length : Int) then (if (rd (rd_L2 x14 x16) 1) = x1 then (if 0 < ((rd_L2 x14 x16).length : Int) then (if x5.length < 17592186044416 then (impl_AttackersOf.l0 k x1 (x5 ++ [rd (rd_L2 x14 x16) 0]) x14 x15 (wrap64 (x16 + 1))) else (none)) else (none)) else (impl_AttackersOf.l0 k x1 x5 x14 x15 (wrap64 (x16 + 1)))) else (none)) else (none)) else (none)) else (some x5)
def impl_AttackersOf.f (k : Nat) (a0_0 : Int) (l0_1 : List (List Int)) (a1 : Int) : Option (List Int) := (some (([] : List Int) : List Int)).bind fun y361 => ((impl_IsGraph.f k a0_0 l0_1).bind fun t364 => (if t364 = true then (impl_AttackersOf.l0 k a1 y361 l0_1 (l0_1.length : Int) 0) else (some y361)))
theorem impl_AttackersOf.mono_l : ∀ k, (∀ y0 y1 y2 y3 y4, LeO (impl_AttackersOf.l0 k y0 y1 y2 y3 y4) (impl_AttackersOf.l0 (k + 1) y0 y1 y2 y3 y4))
 | 0 => fun _ _ _ _ _ r h => by simp [impl_AttackersOf.l0] at h
 | k + 1 => by
  have ih0 := impl_AttackersOf.mono_l k
  ·intro y0 y1 y2 y3 y4
   unfold impl_AttackersOf.l0
   repeat' with_reducible first | apply ih0 | apply impl_IsGraph.mono | apply Zy | apply Zg | refine Zl ?_ ?_ | refine Zh ?_ (fun _ => ?_)
theorem impl_AttackersOf.mono : ∀ a0 a1 a2 k, LeO (impl_AttackersOf.f k a0 a1 a2) (impl_AttackersOf.f (k + 1) a0 a1 a2) := by
 intro a0 a1 a2 k
 have ih0 := impl_AttackersOf.mono_l k
 unfold impl_AttackersOf.f
 repeat' with_reducible first | apply ih0 | apply impl_IsGraph.mono | apply Zy | apply Zg | refine Zl ?_ ?_ | refine Zh ?_ (fun _ => ?_)
theorem impl_AttackersOf.calls (k : Nat) (a0_0 : Int) (A0_1 : Option Addr) (c0_1 : Nat) (l0_1 : List (List Int)) (a1 : Int) (r : List Int) (w : World) (hr0_1 : Kd.C (Kd.slice 3 (Kd.int .i64)) w A0_1 l0_1.length l0_1) (hc0_1 : l0_1.length ≤ c0_1) (h : impl_AttackersOf.f k a0_0 l0_1 a1 = some r) :
  Calls Try.prog 40 #[.agg #[.int .i64 a0_0, .slice A0_1 l0_1.length c0_1], .int .i64 a1] w fun e w' => ∃ v0_ : Value, e = .returned (v0_) ∧ Kd.R (Kd.int .i64) 3 w' w.heap.size (fun _ => True) v0_ r ∧ Below w.heap.size w w' := by
 have hu27 := Try.underlying27
 have HR0_1 := Aside0.mk hr0_1
 have HC0_1 := Aside0.mk hc0_1
 clear hr0_1 hc0_1
 have HB := Aside0.mk (Below.refl w.heap.size w)
 have H := h
 unfold impl_AttackersOf.f at H
 clear h
 obtain ⟨y361, hy361⟩ : ∃ y_ : List Int, y_ = (([] : List Int)) := ⟨_, rfl⟩
 replace H : ((impl_IsGraph.f k a0_0 l0_1).bind fun t364 => (if t364 = true then (impl_AttackersOf.l0 k a1 y361 l0_1 (l0_1.length : Int) 0) else (some y361))) = some r := hy_ hy361 H
 have Ny361 := Aside0.mk hy361
 clear hy361
 obtain ⟨t364, A3, H⟩ := bd_ H
 try dsimp only at H
 by_cases c4 : t364 = true
 rotate_left
 ·replace c4 := Bool.eq_false_iff.mpr c4
  subst c4
  rw [if_neg (show ¬ (false = true) by decide)] at H
  try dsimp only at H
  obtain rfl := Option.some.inj H
  go_enter Try.func40, Try.ntmps40
  go_wp2_with (first | ((with_reducible refine Zz (N := 2) rfl ?_); refine ZI ?hg (N := 2) ?hd (cs := #[.int .i64 a0_0, .slice A0_1 l0_1.length c0_1]) (t := 27) ?hr ?_; (case hd => rfl); (case hg => rfl); (case hr => first | (go_simp; done) | (go_simp; rfl)); intro gb360 hg w19 hbox hb; have BK360 := Aside0.mk (hbox); have GW360 := Aside0.mk ((hz_ hg : w.heap.size ≤ gb360)); have GE360 := Aside0.mk ((hz_ hg : w.heap.size ≤ gb360)); replace HB := Aside0.mk (Zc hB_ hb); clear hb hbox hg) | ((with_reducible refine Zz (N := 8) rfl ?_); refine Kd.R_lit (Kd.int .i64) _ 3 ?hg (N := 8) ?hd (xs := ([] : List Int)) (inner := []) (ok := fun _ => True) (okp := fun _ => True) ?hr ?hp (fun _ hk => hk) trivial (Below.refl _ _) (Nat.le_refl _) (by simp) ?_; (case hd => rfl); (case hg => rfl); (case hr => first | (go_simp; done) | (go_simp; rfl)); (case hp => exact (Reps.none _ _)); intro v362 w20 ho21 hb hg_ hnew_; clear hg_ hnew_; (first | rw [← Ny361.out] at ho21 | (simp only [Int.reduceToNat] at ho21; rw [← Ny361.out] at ho21)); have HO363 := Aside0.mk (Kd.R_lower ho21 (Ze hB_)); replace BK360 := Aside0.mk (Zd (bq_ BK360.out) hb); replace HB := Aside0.mk (Zc hB_ hb); clear hb ho21; obtain ⟨hcz22_0, hcz22_1, hfz22_0, hfz22_1⟩ := c2_ BK360.out) | ((with_reducible refine Zf (f := 24) rfl ?_); refine ZC (some 10) rfl rfl Try.func24 (by kernel_rfl) rfl #[.agg #[.int .i64 a0_0, .slice A0_1 l0_1.length c0_1]] rfl ar_ ?_; (with_reducible refine (impl_IsGraph.calls k a0_0 _ _ l0_1 false _ ?side1 ?side2 A3.out).mono ?_); (case side1 => exact cb_ HR0_1.out); (case side2 => exact HC0_1.out); rintro e w23 ⟨rfl, hb⟩; refine ⟨_, rfl, ?_⟩; replace HO363 := Aside0.mk (Kd.R_below (rR_ HO363.out) hb); replace BK360 := Aside0.mk (Zd (bq_ BK360.out) hb); replace HB := Aside0.mk (Zc hB_ hb); (try clear hb); (try clear hk)))
  go_ret
  exact ⟨_, er_, rR_ HO363.out, hB_⟩
 subst c4
 rw [if_pos rfl] at H
 try dsimp only at H
 have H' := Aside0.mk H
 clear H
 go_enter Try.func40, Try.ntmps40
 go_wp2_with (first | ((with_reducible refine Zz (N := 2) rfl ?_); refine ZI ?hg (N := 2) ?hd (cs := #[.int .i64 a0_0, .slice A0_1 l0_1.length c0_1]) (t := 27) ?hr ?_; (case hd => rfl); (case hg => rfl); (case hr => first | (go_simp; done) | (go_simp; rfl)); intro gb360 hg w5 hbox hb; have BK360 := Aside0.mk (hbox); have GW360 := Aside0.mk ((hz_ hg : w.heap.size ≤ gb360)); have GE360 := Aside0.mk ((hz_ hg : w.heap.size ≤ gb360)); replace HB := Aside0.mk (Zc hB_ hb); clear hb hbox hg) | ((with_reducible refine Zz (N := 8) rfl ?_); refine Kd.R_lit (Kd.int .i64) _ 3 ?hg (N := 8) ?hd (xs := ([] : List Int)) (inner := []) (ok := fun _ => True) (okp := fun _ => True) ?hr ?hp (fun _ hk => hk) trivial (Below.refl _ _) (Nat.le_refl _) (by simp) ?_; (case hd => rfl); (case hg => rfl); (case hr => first | (go_simp; done) | (go_simp; rfl)); (case hp => exact (Reps.none _ _)); intro v362 w6 ho7 hb hg_ hnew_; clear hg_ hnew_; (first | rw [← Ny361.out] at ho7 | (simp only [Int.reduceToNat] at ho7; rw [← Ny361.out] at ho7)); have HO363 := Aside0.mk (Kd.R_lower ho7 (Ze hB_)); replace BK360 := Aside0.mk (Zd (bq_ BK360.out) hb); replace HB := Aside0.mk (Zc hB_ hb); clear hb ho7; obtain ⟨hcz8_0, hcz8_1, hfz8_0, hfz8_1⟩ := c2_ BK360.out) | ((with_reducible refine Zf (f := 24) rfl ?_); refine ZC (some 10) rfl rfl Try.func24 (by kernel_rfl) rfl #[.agg #[.int .i64 a0_0, .slice A0_1 l0_1.length c0_1]] rfl ar_ ?_; (with_reducible refine (impl_IsGraph.calls k a0_0 _ _ l0_1 true _ ?side1 ?side2 A3.out).mono ?_); (case side1 => exact cb_ HR0_1.out); (case side2 => exact HC0_1.out); rintro e w9 ⟨rfl, hb⟩; refine ⟨_, rfl, ?_⟩; replace HO363 := Aside0.mk (Kd.R_below (rR_ HO363.out) hb); replace BK360 := Aside0.mk (Zd (bq_ BK360.out) hb); replace HB := Aside0.mk (Zc hB_ hb); (try clear hb); (try clear hk); obtain ⟨hcz10_0, hcz10_1, hfz10_0, hfz10_1⟩ := c2_ BK360.out))
 go_loopg [5, 16] k (fun kq v5 v16 w' => ∃ (x5_1 : List Int) (x16_1 : Int), v16 = .int .i64 x16_1 ∧ Aside0 (impl_AttackersOf.l0 kq a1 x5_1 l0_1 (l0_1.length : Int) x16_1 = some r) ∧ Aside0 (kq ≤ k) ∧ Aside0 (Kd.R (Kd.int .i64) 3 w' w.heap.size (fun _ => True) v5 x5_1) ∧ Aside0 (w'.heap[gb360]? = some (.cells #[.int .i64 a0_0, (.slice A0_1 l0_1.length c0_1)] 27 (0, 0))) ∧ Aside0 (Below w.heap.size w w'))
 case atStart => exact ⟨(y361), (0), sm_, H', ⟨Nat.le_refl _⟩, ⟨rR_ HO363.out⟩, ⟨bk_ BK360.out⟩, ⟨hB_⟩⟩
 case round =>
  clear H'
  try clear c2
  try clear p2
  try clear c4
  try clear hcz10_0
  try clear hcz10_1
  try clear hcz8_0
  try clear hcz8_1
  try clear hfz10_0
  try clear hfz10_1
  try clear hfz8_0
  try clear hfz8_1
  obtain ⟨x5_1, x16_1, rfl, HA, HK1, HO_5, BK360, HB⟩ := hrel
  cases gk with
  | zero => exact absurd HA.out (by simp [impl_AttackersOf.l0])
  | succ k1 =>
   have H := HA.out
   clear HA
   simp only [impl_AttackersOf.l0] at H
   by_cases c11 : x16_1 < (l0_1.length : Int)
   rotate_left
   ·rw [if_neg c11] at H
    have c11b0 : decide (x16_1 < (l0_1.length : Int)) = false := decide_eq_false c11
    clear c11
    obtain rfl := Option.some.inj H
    go_wp2
    go_ret
    exact ⟨_, er_, rR_ HO_5.out, hB_⟩
   rw [if_pos c11] at H
   have c11b0 : decide (x16_1 < (l0_1.length : Int)) = true := decide_eq_true c11
   clear c11
   by_cases c12 : 0 ≤ x16_1
   rotate_left
   ·rw [if_neg c12] at H
    exact absurd H (by simp)
   rw [if_pos c12] at H
   have c12b0 : decide (0 ≤ x16_1) = true := decide_eq_true c12
   clear c12
   by_cases c13 : x16_1 < (l0_1.length : Int)
   rotate_left
   ·rw [if_neg c13] at H
    exact absurd H (by simp)
   rw [if_pos c13] at H
   have c13b0 : decide (x16_1 < (l0_1.length : Int)) = true := decide_eq_true c13
   clear c13
   by_cases c14 : 1 < ((rd_L2 l0_1 x16_1).length : Int)
   rotate_left
   ·rw [if_neg c14] at H
    exact absurd H (by simp)
   rw [if_pos c14] at H
   have c14b0 : decide (1 < ((rd_L2 l0_1 x16_1).length : Int)) = true := decide_eq_true c14
   have c14b1 : decide (1 < (rd_L2 l0_1 x16_1).length) = true := decide_eq_true (by omega)
   clear c14
   by_cases c15 : (rd (rd_L2 l0_1 x16_1) 1) = a1
   rotate_left
   ·rw [if_neg c15] at H
    have c15b0 : ((rd (rd_L2 l0_1 x16_1) 1) == a1) = false := beq_eq_false_iff_ne.mpr c15
    have c15b1 : ((rd (rd_L2 l0_1 x16_1) 1) != a1) = true := bne_iff_ne.mpr c15
    have H' := Aside0.mk H
    clear H
    have p365 : 0 ≤ (x16_1 : Int) := of_decide_eq_true as_
    have q365 : x16_1 < (l0_1.length : Int) := of_decide_eq_true as_
    obtain ⟨ad365, A365_0, c365_0, e365, hx365_0, hl365_0, hi365_0⟩ := at_L2 HR0_1.out x16_1 p365 q365
    cases e365
    replace hx365_0 := (HB.out.cell (World.block_lt_of_cell? w _ hx365_0)).trans hx365_0
    have HR365_0 := Aside0.mk hi365_0
    have HC365_0 := Aside0.mk hl365_0
    clear hi365_0 hl365_0
    replace p365 := eq_true p365
    replace q365 := eq_true q365
    have p366 : 0 ≤ (1 : Int) := (by omega)
    have q366 : 1 < ((rd_L2 l0_1 x16_1).length : Int) := of_decide_eq_true as_
    obtain ⟨ad366, e366, hx366_0⟩ := Zo HR365_0.out 1 p366 q366
    cases e366
    (try simp only [show (1 : Int).toNat = 1 from rfl, Nat.reduceMul, Nat.reduceEqDiff, Go.Addr.add, ↓reduceIte] at hx366_0)
    have qi366 : (1 < (rd_L2 l0_1 x16_1).length) = True := eq_true (by omega)
    (try rw [show ((1 : Int)).toNat = 1 from rfl] at hx366_0)
    replace hx366_0 := (HB.out.cell (World.block_lt_of_cell? w _ hx366_0)).trans hx366_0
    replace p366 := eq_true p366
    replace q366 := eq_true q366
    go_wp2
    go_roundg k1
    case measure => have := HK1.out; omega
    case rel => exact ⟨(x5_1), (wrap64 (x16_1 + 1)), sm_, H', ⟨by have := HK1.out; omega⟩, ⟨rR_ HO_5.out⟩, ⟨bk_ BK360.out⟩, ⟨hB_⟩⟩
   rw [if_pos c15] at H
   have c15b0 : ((rd (rd_L2 l0_1 x16_1) 1) == a1) = true := beq_iff_eq.mpr c15
   have c15b1 : ((rd (rd_L2 l0_1 x16_1) 1) != a1) = false := bne_eq_false_iff_eq.mpr c15
   clear c15
   by_cases c16 : 0 < ((rd_L2 l0_1 x16_1).length : Int)
   rotate_left
   ·rw [if_neg c16] at H
    exact absurd H (by simp)
   rw [if_pos c16] at H
   have c16b0 : decide (0 < ((rd_L2 l0_1 x16_1).length : Int)) = true := decide_eq_true c16
   have c16b1 : decide (0 < (rd_L2 l0_1 x16_1).length) = true := decide_eq_true (by omega)
   clear c16
   by_cases c17 : x5_1.length < 17592186044416
   rotate_left
   ·rw [if_neg c17] at H
    exact absurd H (by simp)
   rw [if_pos c17] at H
   have LMc17 := Aside0.mk c17
   clear c17
   obtain ⟨y368, hy368⟩ : ∃ y_ : List Int, y_ = (x5_1 ++ [rd (rd_L2 l0_1 x16_1) 0]) := ⟨_, rfl⟩
   replace H : (impl_AttackersOf.l0 k1 a1 y368 l0_1 (l0_1.length : Int) (wrap64 (x16_1 + 1))) = some r := hy_ hy368 H
   have Ny368 := Aside0.mk hy368
   clear hy368
   have H' := Aside0.mk H
   clear H
   have p365 : 0 ≤ (x16_1 : Int) := of_decide_eq_true as_
   have q365 : x16_1 < (l0_1.length : Int) := of_decide_eq_true as_
   obtain ⟨ad365, A365_0, c365_0, e365, hx365_0, hl365_0, hi365_0⟩ := at_L2 HR0_1.out x16_1 p365 q365
   cases e365
   replace hx365_0 := (HB.out.cell (World.block_lt_of_cell? w _ hx365_0)).trans hx365_0
   have HR365_0 := Aside0.mk hi365_0
   have HC365_0 := Aside0.mk hl365_0
   clear hi365_0 hl365_0
   replace p365 := eq_true p365
   replace q365 := eq_true q365
   have p366 : 0 ≤ (1 : Int) := (by omega)
   have q366 : 1 < ((rd_L2 l0_1 x16_1).length : Int) := of_decide_eq_true as_
   obtain ⟨ad366, e366, hx366_0⟩ := Zo HR365_0.out 1 p366 q366
   cases e366
   (try simp only [show (1 : Int).toNat = 1 from rfl, Nat.reduceMul, Nat.reduceEqDiff, Go.Addr.add, ↓reduceIte] at hx366_0)
   have qi366 : (1 < (rd_L2 l0_1 x16_1).length) = True := eq_true (by omega)
   (try rw [show ((1 : Int)).toNat = 1 from rfl] at hx366_0)
   replace hx366_0 := (HB.out.cell (World.block_lt_of_cell? w _ hx366_0)).trans hx366_0
   replace p366 := eq_true p366
   replace q366 := eq_true q366
   have p367 : 0 ≤ (0 : Int) := (by omega)
   have q367 : 0 < ((rd_L2 l0_1 x16_1).length : Int) := of_decide_eq_true as_
   obtain ⟨ad367, e367, hx367_0⟩ := Zo HR365_0.out 0 p367 q367
   obtain rfl : ad366 = ad367 := (by injection e367)
   have qi367 : (0 < (rd_L2 l0_1 x16_1).length) = True := eq_true (by omega)
   (try rw [show ((0 : Int)).toNat = 0 from rfl] at hx367_0)
   (try rw [Addr.add_zero'] at hx367_0)
   replace hx367_0 := (HB.out.cell (World.block_lt_of_cell? w _ hx367_0)).trans hx367_0
   replace p367 := eq_true p367
   replace q367 := eq_true q367
   go_wp2_with (first | ((with_reducible refine gate_builtin (b := .append) (xs := #[.tmp 25, .tmp 29]) rfl ?_); at_builtin; refine Kd.R_append (Kd.int .i64) (w0 := w) w.heap.size rfl (.tmp 25) (.tmp 29) 31 3 (.int .i64 0) 8 rfl Try.underlying31 info3 rfl (by decide) (by omega) u5 x5_1 (rd (rd_L2 l0_1 x16_1) 0) [.int .i64 (rd (rd_L2 l0_1 x16_1) 0)] (fun _ => True) (fun _ => False) rfl rfl ?aP (fun _ hk => hk.elim) ?aF ?aO ?aB ?aS ?aL ?_; (case aP => exact rfl); (case aB => exact hB_); (case aF => exact (fun _ _ => trivial)); (case aO => exact (rR_ HO_5.out)); (case aS => exact (Ze hB_)); (case aL => have := LMc17.out; omega); intro v369 w18 ho hb hg hat; rw [← Ny368.out] at ho; have n0_ := Aside0.mk (ZJ (bq_ BK360.out) hg (Kd.R_ne HO_5.out BK360.out (by decide))); have n1_ := Aside0.mk (hb); have n2_ := Aside0.mk (ho); clear BK360; clear HB; clear HO_5; have BK360 := n0_; have HB := n1_; have HO370 := n2_; clear n0_ n1_ n2_; clear ho hb hg hat))
   go_roundg k1
   case measure => have := HK1.out; omega
   case rel => exact ⟨(y368), (wrap64 (x16_1 + 1)), sm_, H', ⟨by have := HK1.out; omega⟩, ⟨rR_ HO370.out⟩, ⟨bk_ BK360.out⟩, ⟨hB_⟩⟩

/-! ### impl_Defends: function 115 -/
mutual
def impl_Defends.j0 : Nat → List Int → Int → Bool → Int → List (List Int) → Option (Bool)
 | 0, _, _, _, _, _ => none
 | k + 1, x1, x2, x19, x372000, x372001 => if x19 = true then (some false) else ((impl_HitBy.f k x372000 x372001 x1).bind fun t374 => ((impl_AttackersOf.f k x372000 x372001 x2).bind fun t377 => (impl_Defends.l0 k t374 t377 (t377.length : Int) 0)))
def impl_Defends.l0 : Nat → List Int → List Int → Int → Int → Option (Bool)
 | 0, _, _, _, _ => none
 | k + 1, x7, x25, x26, x27 => if x27 < x26 then (if 0 ≤ x27 then (if x27 < (x25.length : Int) then ((slices_Contains_int_int.f k x7 (rd x25 x27)).bind fun t381 => (if t381 = true then (impl_Defends.l0 k x7 x25 x26 (wrap64 (x27 + 1))) else (some false))) else (none)) else (none)) else (some true)
end
def impl_Defends.f (k : Nat) (a0_0 : Int) (l0_1 : List (List Int)) (l1 : List Int) (a2 : Int) : Option (Bool) := (impl_IsSet.f k a0_0 l0_1 l1).bind fun t372 => (if t372 = true then ((impl_isClaim.f a0_0 l0_1 a2).bind fun t373 => (impl_Defends.j0 k l1 a2 (!t373) a0_0 l0_1)) else (impl_Defends.j0 k l1 a2 true a0_0 l0_1))
theorem impl_Defends.mono_l : ∀ k, (∀ y0 y1 y2 y3 y4, LeO (impl_Defends.j0 k y0 y1 y2 y3 y4) (impl_Defends.j0 (k + 1) y0 y1 y2 y3 y4)) ∧ (∀ y0 y1 y2 y3, LeO (impl_Defends.l0 k y0 y1 y2 y3) (impl_Defends.l0 (k + 1) y0 y1 y2 y3))
 | 0 => ⟨fun _ _ _ _ _ r h => by simp [impl_Defends.j0] at h, fun _ _ _ _ r h => by simp [impl_Defends.l0] at h⟩
 | k + 1 => by
  obtain ⟨ih0, ih1⟩ := impl_Defends.mono_l k
  refine ⟨?_, ?_⟩
  ·intro y0 y1 y2 y3 y4
   unfold impl_Defends.j0
   repeat' with_reducible first | apply ih0 | apply ih1 | apply impl_AttackersOf.mono | apply impl_HitBy.mono | apply impl_IsSet.mono | apply slices_Contains_int_int.mono | apply Zy | apply Zg | refine Zl ?_ ?_ | refine Zh ?_ (fun _ => ?_)
  ·intro y0 y1 y2 y3
   unfold impl_Defends.l0
   repeat' with_reducible first | apply ih0 | apply ih1 | apply impl_AttackersOf.mono | apply impl_HitBy.mono | apply impl_IsSet.mono | apply slices_Contains_int_int.mono | apply Zy | apply Zg | refine Zl ?_ ?_ | refine Zh ?_ (fun _ => ?_)
theorem impl_Defends.mono : ∀ a0 a1 a2 a3 k, LeO (impl_Defends.f k a0 a1 a2 a3) (impl_Defends.f (k + 1) a0 a1 a2 a3) := by
 intro a0 a1 a2 a3 k
 obtain ⟨ih0, ih1⟩ := impl_Defends.mono_l k
 unfold impl_Defends.f
 repeat' with_reducible first | apply ih0 | apply ih1 | apply impl_AttackersOf.mono | apply impl_HitBy.mono | apply impl_IsSet.mono | apply slices_Contains_int_int.mono | apply Zy | apply Zg | refine Zl ?_ ?_ | refine Zh ?_ (fun _ => ?_)
theorem impl_Defends.calls (k : Nat) (a0_0 : Int) (A0_1 : Option Addr) (c0_1 : Nat) (l0_1 : List (List Int)) (A1 : Option Addr) (c1 : Nat) (l1 : List Int) (a2 : Int) (r : Bool) (w : World) (hr0_1 : Kd.C (Kd.slice 3 (Kd.int .i64)) w A0_1 l0_1.length l0_1) (hc0_1 : l0_1.length ≤ c0_1) (hr1 : Kd.C (Kd.int .i64) w A1 l1.length l1) (hc1 : l1.length ≤ c1) (h : impl_Defends.f k a0_0 l0_1 l1 a2 = some r) :
  Calls Try.prog 115 #[.agg #[.int .i64 a0_0, .slice A0_1 l0_1.length c0_1], .slice A1 l1.length c1, .int .i64 a2] w fun e w' => e = .returned (.bool r) ∧ Below w.heap.size w w' := by
 have hu27 := Try.underlying27
 have HR0_1 := Aside0.mk hr0_1
 have HC0_1 := Aside0.mk hc0_1
 clear hr0_1 hc0_1
 have HR1 := Aside0.mk hr1
 have HC1 := Aside0.mk hc1
 clear hr1 hc1
 have HB := Aside0.mk (Below.refl w.heap.size w)
 have H := h
 unfold impl_Defends.f at H
 clear h
 have HC4 := Aside0.mk H
 clear H
 go_enter Try.func115, Try.ntmps115
 go_upto_region 1 with (first | ((with_reducible refine Zz (N := 3) rfl ?_); refine ZI ?hg (N := 3) ?hd (cs := #[.int .i64 a0_0, .slice A0_1 l0_1.length c0_1]) (t := 27) ?hr ?_; (case hd => rfl); (case hg => rfl); (case hr => first | (go_simp; done) | (go_simp; rfl)); intro gb371 hg w5 hbox hb; have BK371 := Aside0.mk (hbox); have GW371 := Aside0.mk ((hz_ hg : w.heap.size ≤ gb371)); have GE371 := Aside0.mk ((hz_ hg : w.heap.size ≤ gb371)); replace HB := Aside0.mk (Zc hB_ hb); clear hb hbox hg))
 (try simp only [Act.put, List.setIfInBounds_toArray, List.set_cons_zero, List.set_cons_succ])
 go_cut [19] (fun v19 wc => ∃ (kq : Nat) (x19_3 : Bool), v19 = .bool x19_3 ∧ Aside0 (impl_Defends.j0 kq l1 a2 x19_3 a0_0 l0_1 = some r) ∧ Aside0 (kq ≤ k) ∧ Aside0 (wc.heap[gb371]? = some (.cells #[.int .i64 a0_0, (.slice A0_1 l0_1.length c0_1)] 27 (0, 0))) ∧ Aside0 (Below w.heap.size w wc))
 case first =>
  have H := HC4.out
  clear HC4
  obtain ⟨t372, A6, H⟩ := bd_ H
  try dsimp only at H
  by_cases c7 : t372 = true
  rotate_left
  ·replace c7 := Bool.eq_false_iff.mpr c7
   subst c7
   rw [if_neg (show ¬ (false = true) by decide)] at H
   try dsimp only at H
   have H' := Aside0.mk H
   clear H
   obtain ⟨hcz13_0, hcz13_1, hfz13_0, hfz13_1⟩ := c2_ BK371.out
   go_wp2_with (first | ((with_reducible refine Zf (f := 90) rfl ?_); refine ZC (some 12) rfl rfl Try.func90 (by kernel_rfl) rfl #[.agg #[.int .i64 a0_0, .slice A0_1 l0_1.length c0_1], .slice A1 l1.length c1] rfl ar_ ?_; (with_reducible refine (impl_IsSet.calls k a0_0 _ _ l0_1 _ _ l1 false _ ?side1 ?side2 ?side3 ?side4 A6.out).mono ?_); (case side1 => exact cb_ HR0_1.out); (case side2 => exact HC0_1.out); (case side3 => exact cb_ HR1.out); (case side4 => exact HC1.out); rintro e w14 ⟨rfl, hb⟩; refine ⟨_, rfl, ?_⟩; replace BK371 := Aside0.mk (Zd (bq_ BK371.out) hb); replace HB := Aside0.mk (Zc hB_ hb); (try clear hb)))
   go_meet
   case rel => exact ⟨_, (true), sm_, H', ⟨by first | omega | exact Nat.le_refl _⟩, ⟨bk_ BK371.out⟩, ⟨hB_⟩⟩
  subst c7
  rw [if_pos rfl] at H
  try dsimp only at H
  obtain ⟨t373, A8, H⟩ := bd_ H
  try dsimp only at H
  have H' := Aside0.mk H
  clear H
  obtain ⟨hcz9_0, hcz9_1, hfz9_0, hfz9_1⟩ := c2_ BK371.out
  go_wp2_with (first | ((with_reducible refine Zf (f := 90) rfl ?_); refine ZC (some 12) rfl rfl Try.func90 (by kernel_rfl) rfl #[.agg #[.int .i64 a0_0, .slice A0_1 l0_1.length c0_1], .slice A1 l1.length c1] rfl ar_ ?_; (with_reducible refine (impl_IsSet.calls k a0_0 _ _ l0_1 _ _ l1 true _ ?side1 ?side2 ?side3 ?side4 A6.out).mono ?_); (case side1 => exact cb_ HR0_1.out); (case side2 => exact HC0_1.out); (case side3 => exact cb_ HR1.out); (case side4 => exact HC1.out); rintro e w10 ⟨rfl, hb⟩; refine ⟨_, rfl, ?_⟩; replace BK371 := Aside0.mk (Zd (bq_ BK371.out) hb); replace HB := Aside0.mk (Zc hB_ hb); (try clear hb); obtain ⟨hcz11_0, hcz11_1, hfz11_0, hfz11_1⟩ := c2_ BK371.out) | (go_at_call 61; (with_reducible refine (impl_isClaim.calls a0_0 _ _ l0_1 a2 t373 _ ?side1 ?side2 A8.out).mono ?_); (case side1 => exact cb_ HR0_1.out); (case side2 => exact HC0_1.out); rintro e w12 ⟨rfl, hb⟩; replace BK371 := Aside0.mk (Zd (bq_ BK371.out) hb); replace HB := Aside0.mk (Zc hB_ hb); (try clear hb)))
  go_meet
  case rel => exact ⟨_, (!t373), sm_, H', ⟨by first | omega | exact Nat.le_refl _⟩, ⟨bk_ BK371.out⟩, ⟨hB_⟩⟩
 case rest =>
  clear HC4
  try clear c1
  try clear p2
  try clear c7
  try clear c9
  try clear c11
  try clear hcz11_0
  try clear hcz11_1
  try clear hcz13_0
  try clear hcz13_1
  try clear hcz9_0
  try clear hcz9_1
  try clear hfz11_0
  try clear hfz11_1
  try clear hfz13_0
  try clear hfz13_1
  try clear hfz9_0
  try clear hfz9_1
  obtain ⟨kq, x19_3, rfl, HA, HJ3, BK371, HB⟩ := hcut
  cases kq with
  | zero => exact absurd HA.out (by simp [impl_Defends.j0])
  | succ kj3 =>
   have H := HA.out
   clear HA
   simp only [impl_Defends.j0] at H
   by_cases c15 : x19_3 = true
   ·subst c15
    rw [if_pos rfl] at H
    try dsimp only at H
    obtain rfl := Option.some.inj H
    go_wp2
    go_ret
    exact ⟨er_, hB_⟩
   replace c15 := Bool.eq_false_iff.mpr c15
   subst c15
   rw [if_neg (show ¬ (false = true) by decide)] at H
   try dsimp only at H
   obtain ⟨t374, A16, H⟩ := bd_ H
   try dsimp only at H
   obtain ⟨t377, A17, H⟩ := bd_ H
   try dsimp only at H
   have H' := Aside0.mk H
   clear H
   obtain ⟨hcz18_0, hcz18_1, hfz18_0, hfz18_1⟩ := c2_ BK371.out
   go_wp2_with (first | ((with_reducible refine Zf (f := 114) rfl ?_); refine ZC (some 22) rfl rfl Try.func114 (by kernel_rfl) rfl #[.agg #[.int .i64 a0_0, .slice A0_1 l0_1.length c0_1], .slice A1 l1.length c1] rfl ar_ ?_; (with_reducible refine (impl_HitBy.calls kj3 a0_0 _ _ l0_1 _ _ l1 t374 _ ?side1 ?side2 ?side3 ?side4 A16.out).mono ?_); (case side1 => exact cb_ HR0_1.out); (case side2 => exact HC0_1.out); (case side3 => exact cb_ HR1.out); (case side4 => exact HC1.out); rintro e w19 ⟨v375, rfl, ho0, hb⟩; refine ⟨_, rfl, ?_⟩; have HO376 := Aside0.mk (Kd.R_lower ho0 (Ze hB_)); replace BK371 := Aside0.mk (Zd (bq_ BK371.out) hb); replace HB := Aside0.mk (Zc hB_ hb); (try clear hb); (try clear ho0); obtain ⟨hcz20_0, hcz20_1, hfz20_0, hfz20_1⟩ := c2_ BK371.out) | ((with_reducible refine Zf (f := 40) rfl ?_); refine ZC (some 25) rfl rfl Try.func40 (by kernel_rfl) rfl #[.agg #[.int .i64 a0_0, .slice A0_1 l0_1.length c0_1], .int .i64 a2] rfl ar_ ?_; (with_reducible refine (impl_AttackersOf.calls kj3 a0_0 _ _ l0_1 a2 t377 _ ?side1 ?side2 A17.out).mono ?_); (case side1 => exact cb_ HR0_1.out); (case side2 => exact HC0_1.out); rintro e w21 ⟨v378, rfl, ho0, hb⟩; refine ⟨_, rfl, ?_⟩; have HO379 := Aside0.mk (Kd.R_lower (Kd.R_new' ho0 (Kd.R_lt (rR_ HO376.out))) (Ze hB_)); replace HO376 := Aside0.mk (Kd.R_elder' (rR_ HO376.out) (Kd.R_base ho0) hb); replace BK371 := Aside0.mk (Zd (bq_ BK371.out) hb); replace HB := Aside0.mk (Zc hB_ hb); (try clear hb); (try clear ho0); obtain ⟨Ao22, co22, eo22⟩ := Kd.R_slice HO379.out; subst eo22))
   go_loopg [27] kj3 (fun kq v27 w' => ∃ (x27_2 : Int), v27 = .int .i64 x27_2 ∧ Aside0 (impl_Defends.l0 kq t374 t377 (t377.length : Int) x27_2 = some r) ∧ Aside0 (kq ≤ kj3) ∧ Aside0 (Kd.R (Kd.int .i64) 3 w' w.heap.size (fun k_ => some k_ ≠ ((.slice Ao22 t377.length co22) : Value).ownBlock) v375 t374) ∧ Aside0 (Kd.R (Kd.int .i64) 3 w' w.heap.size (fun k_ => some k_ ≠ (v375 : Value).ownBlock) (.slice Ao22 t377.length co22) t377) ∧ Aside0 (w'.heap[gb371]? = some (.cells #[.int .i64 a0_0, (.slice A0_1 l0_1.length c0_1)] 27 (0, 0))) ∧ Aside0 (Below w.heap.size w w'))
   case atStart => exact ⟨(0), sm_, H', ⟨Nat.le_refl _⟩, ⟨by (with_reducible repeat (first | apply Kd.R_alloc | apply Kd.R_drewN | apply Kd.R_drew)); exact ZK HO376.out (fun _ hk => hk.2)⟩, ⟨by (with_reducible repeat (first | apply Kd.R_alloc | apply Kd.R_drewN | apply Kd.R_drew)); exact ZK HO379.out (fun _ hk => hk.2)⟩, ⟨bk_ BK371.out⟩, ⟨hB_⟩⟩
   case round =>
    clear H'
    try clear c1
    try clear p2
    try clear c4
    try clear c7
    try clear c9
    try clear c11
    try clear c15
    try clear hcz11_0
    try clear hcz11_1
    try clear hcz13_0
    try clear hcz13_1
    try clear hcz18_0
    try clear hcz18_1
    try clear hcz20_0
    try clear hcz20_1
    try clear hcz9_0
    try clear hcz9_1
    try clear hfz11_0
    try clear hfz11_1
    try clear hfz13_0
    try clear hfz13_1
    try clear hfz18_0
    try clear hfz18_1
    try clear hfz20_0
    try clear hfz20_1
    try clear hfz9_0
    try clear hfz9_1
    try clear p2
    obtain ⟨x27_2, rfl, HA, HK2, HO_7, HO_25, BK371, HB⟩ := hrel
    cases gk with
    | zero => exact absurd HA.out (by simp [impl_Defends.l0])
    | succ k2 =>
     have H := HA.out
     clear HA
     simp only [impl_Defends.l0] at H
     by_cases c23 : x27_2 < (t377.length : Int)
     rotate_left
     ·rw [if_neg c23] at H
      have c23b0 : decide (x27_2 < (t377.length : Int)) = false := decide_eq_false c23
      clear c23
      obtain rfl := Option.some.inj H
      go_wp2
      go_ret
      exact ⟨er_, hB_⟩
     rw [if_pos c23] at H
     have c23b0 : decide (x27_2 < (t377.length : Int)) = true := decide_eq_true c23
     clear c23
     by_cases c24 : 0 ≤ x27_2
     rotate_left
     ·rw [if_neg c24] at H
      exact absurd H (by simp)
     rw [if_pos c24] at H
     have c24b0 : decide (0 ≤ x27_2) = true := decide_eq_true c24
     clear c24
     by_cases c25 : x27_2 < (t377.length : Int)
     rotate_left
     ·rw [if_neg c25] at H
      exact absurd H (by simp)
     rw [if_pos c25] at H
     have c25b0 : decide (x27_2 < (t377.length : Int)) = true := decide_eq_true c25
     clear c25
     obtain ⟨t381, A26, H⟩ := bd_ H
     try dsimp only at H
     by_cases c27 : t381 = true
     rotate_left
     ·replace c27 := Bool.eq_false_iff.mpr c27
      subst c27
      rw [if_neg (show ¬ (false = true) by decide)] at H
      try dsimp only at H
      obtain rfl := Option.some.inj H
      have p380 : 0 ≤ (x27_2 : Int) := of_decide_eq_true as_
      have q380 : x27_2 < (t377.length : Int) := of_decide_eq_true as_
      obtain ⟨ad380, e380, hx380_0⟩ := Zo (ZE HO_25.out).2.2 x27_2 p380 q380
      cases e380
      replace p380 := eq_true p380
      replace q380 := eq_true q380
      obtain ⟨Ao29, co29, eo29⟩ := Kd.R_slice HO_7.out
      subst eo29
      go_wp2_with (first | ((with_reducible refine Zf (f := 80) rfl ?_); refine ZC (some 33) rfl rfl Try.func80 (by kernel_rfl) rfl #[.slice Ao29 t374.length co29, .int .i64 (rd t377 x27_2)] rfl ar_ ?_; (with_reducible refine (slices_Contains_int_int.calls k2 _ _ t374 (rd t377 x27_2) false _ ?side1 ?side2 A26.out).mono ?_); (case side1 => exact sA_ (ZE HO_7.out).2.2); (case side2 => exact (ZE HO_7.out).2.1); rintro e w' ⟨rfl, ⟨nd, rfl⟩⟩; refine ⟨_, rfl, ?_⟩))
      go_ret
      exact ⟨er_, hB_⟩
     subst c27
     rw [if_pos rfl] at H
     try dsimp only at H
     have H' := Aside0.mk H
     clear H
     have p380 : 0 ≤ (x27_2 : Int) := of_decide_eq_true as_
     have q380 : x27_2 < (t377.length : Int) := of_decide_eq_true as_
     obtain ⟨ad380, e380, hx380_0⟩ := Zo (ZE HO_25.out).2.2 x27_2 p380 q380
     cases e380
     replace p380 := eq_true p380
     replace q380 := eq_true q380
     obtain ⟨Ao28, co28, eo28⟩ := Kd.R_slice HO_7.out
     subst eo28
     go_wp2_with (first | ((with_reducible refine Zf (f := 80) rfl ?_); refine ZC (some 33) rfl rfl Try.func80 (by kernel_rfl) rfl #[.slice Ao28 t374.length co28, .int .i64 (rd t377 x27_2)] rfl ar_ ?_; (with_reducible refine (slices_Contains_int_int.calls k2 _ _ t374 (rd t377 x27_2) true _ ?side1 ?side2 A26.out).mono ?_); (case side1 => exact sA_ (ZE HO_7.out).2.2); (case side2 => exact (ZE HO_7.out).2.1); rintro e w' ⟨rfl, ⟨nd, rfl⟩⟩; refine ⟨_, rfl, ?_⟩))
     go_roundg k2
     case measure => have := HJ3.out; have := HK2.out; omega
     case rel => exact ⟨(wrap64 (x27_2 + 1)), sm_, H', ⟨by have := HJ3.out; have := HK2.out; omega⟩, ⟨rR_ HO_7.out⟩, ⟨rR_ HO_25.out⟩, ⟨bk_ BK371.out⟩, ⟨hB_⟩⟩

end Go.Proofs.Ytdlobolnajcfnaa.PFnPositions
