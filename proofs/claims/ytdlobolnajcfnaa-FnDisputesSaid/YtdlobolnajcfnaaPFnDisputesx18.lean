-- Written by a program of this session (hooks of mine on the print): Lean checks it.
import Derived.Test.YtdlobolnajcfnaaPFnDisputesx0
import Derived.Test.YtdlobolnajcfnaaPFnDisputesx2
import Derived.Test.YtdlobolnajcfnaaPFnDisputesx3
import Derived.Test.YtdlobolnajcfnaaPFnDisputesx5
namespace Go.Proofs.Ytdlobolnajcfnaa.PFnDisputes
open Go.RowKit Go.Proofs.YtdlobolnajcfnaaW.PrintWords Go.Proofs.YtdlobolnajcfnaaW.PrintLast Go.Proofs.YtdlobolnajcfnaaW.PrintMore
attribute [local go_sem] max2_int min2_int max_two min_two max_three min_three max_four min_four   -- for this text's walks alone
set_option linter.unusedVariables false
set_option linter.unusedSimpArgs false
set_option maxHeartbeats 8000000
set_option maxRecDepth 100000

/-! ### impl_CountLoops: function 49 -/
def impl_CountLoops.l0 : Nat → Int → List (List Int) → Int → Int → Option (Int)
 | 0, _, _, _, _ => none
 | k + 1, x3, x11, x12, x13 => if x13 < x12 then (if 0 ≤ x13 then (if x13 < (x11.length : Int) then (if 0 < ((rd_L2 x11 x13).length : Int) then (if 1 < ((rd_L2 x11 x13).length : Int) then (if (rd (rd_L2 x11 x13) 0) = (rd (rd_L2 x11 x13) 1) then (impl_CountLoops.l0 k (wrap64 (x3 + 1)) x11 x12 (wrap64 (x13 + 1))) else (impl_CountLoops.l0 k x3 x11 x12 (wrap64 (x13 + 1)))) else (none)) else (none)) else (none)) else (none)) else (some x3)
def impl_CountLoops.f (k : Nat) (a0_0 : Int) (l0_1 : List (List Int)) : Option (Int) := (impl_IsGraph.f k a0_0 l0_1).bind fun t578 => (if t578 = true then (impl_CountLoops.l0 k 0 l0_1 (l0_1.length : Int) 0) else (some 0))
theorem impl_CountLoops.mono_l : ∀ k, (∀ y0 y1 y2 y3, LeO (impl_CountLoops.l0 k y0 y1 y2 y3) (impl_CountLoops.l0 (k + 1) y0 y1 y2 y3))
 | 0 => fun _ _ _ _ r h => by simp [impl_CountLoops.l0] at h
 | k + 1 => by
  have ih0 := impl_CountLoops.mono_l k
  ·intro y0 y1 y2 y3
   unfold impl_CountLoops.l0
   repeat' with_reducible first | apply ih0 | apply impl_IsGraph.mono | apply ZJ | apply Zn | refine Zu ?_ ?_ | refine Zo ?_ (fun _ => ?_)
theorem impl_CountLoops.mono : ∀ a0 a1 k, LeO (impl_CountLoops.f k a0 a1) (impl_CountLoops.f (k + 1) a0 a1) := by
 intro a0 a1 k
 have ih0 := impl_CountLoops.mono_l k
 unfold impl_CountLoops.f
 repeat' with_reducible first | apply ih0 | apply impl_IsGraph.mono | apply ZJ | apply Zn | refine Zu ?_ ?_ | refine Zo ?_ (fun _ => ?_)
theorem impl_CountLoops.calls (k : Nat) (a0_0 : Int) (A0_1 : Option Addr) (c0_1 : Nat) (l0_1 : List (List Int)) (r : Int) (w : World) (hr0_1 : Kd.C (Kd.slice 3 (Kd.int .i64)) w A0_1 l0_1.length l0_1) (hc0_1 : l0_1.length ≤ c0_1) (h : impl_CountLoops.f k a0_0 l0_1 = some r) :
  Calls Try.prog 49 #[.agg #[.int .i64 a0_0, .slice A0_1 l0_1.length c0_1]] w fun e w' => e = .returned (.int .i64 r) ∧ Below w.heap.size w w' := by
 have hu27 := Try.underlying27
 have HR0_1 := Aside0.mk hr0_1
 have HC0_1 := Aside0.mk hc0_1
 clear hr0_1 hc0_1
 have HB := Aside0.mk (Below.refl w.heap.size w)
 have H := h
 unfold impl_CountLoops.f at H
 clear h
 obtain ⟨t578, A2, H⟩ := bd_ H
 try dsimp only at H
 by_cases c3 : t578 = true
 rotate_left
 ·replace c3 := Bool.eq_false_iff.mpr c3
  subst c3
  rw [if_neg (show ¬ (false = true) by decide)] at H
  try dsimp only at H
  obtain rfl := Option.some.inj H
  go_enter Try.func49, Try.ntmps49
  go_wp2_with (first | ((with_reducible refine ZA (N := 1) rfl ?_); refine ZC ?hg (N := 1) ?hd (cs := #[.int .i64 a0_0, .slice A0_1 l0_1.length c0_1]) (t := 27) ?hr ?_; (case hd => rfl); (case hg => rfl); (case hr => first | (go_simp; done) | (go_simp; rfl)); intro gb577 hg w14 hbox hb; have BK577 := Aside0.mk (hbox); have GW577 := Aside0.mk ((hz_ hg : w.heap.size ≤ gb577)); have GE577 := Aside0.mk ((hz_ hg : w.heap.size ≤ gb577)); replace HB := Aside0.mk (Zh hB_ hb); clear hb hbox hg; obtain ⟨hcz15_0, hcz15_1, hfz15_0, hfz15_1⟩ := c2_ BK577.out; (try clear BK577)) | (go_at_call 24; (with_reducible refine (impl_IsGraph.calls k a0_0 _ _ l0_1 false _ ?side1 ?side2 A2.out).mono ?_); (case side1 => exact cb_ HR0_1.out); (case side2 => exact HC0_1.out); rintro e w16 ⟨rfl, hb⟩; replace HB := Aside0.mk (Zh hB_ hb); (try clear hb)))
  repeat (go_quiet (first | ((with_reducible refine ZA (N := 1) rfl ?_); refine ZC ?hg (N := 1) ?hd (cs := #[.int .i64 a0_0, .slice A0_1 l0_1.length c0_1]) (t := 27) ?hr ?_; (case hd => rfl); (case hg => rfl); (case hr => first | (go_simp; done) | (go_simp; rfl)); intro gb577 hg w14 hbox hb; have BK577 := Aside0.mk (hbox); have GW577 := Aside0.mk ((hz_ hg : w.heap.size ≤ gb577)); have GE577 := Aside0.mk ((hz_ hg : w.heap.size ≤ gb577)); replace HB := Aside0.mk (Zh hB_ hb); clear hb hbox hg; obtain ⟨hcz15_0, hcz15_1, hfz15_0, hfz15_1⟩ := c2_ BK577.out; (try clear BK577)) | (go_at_call 24; (with_reducible refine (impl_IsGraph.calls k a0_0 _ _ l0_1 false _ ?side1 ?side2 A2.out).mono ?_); (case side1 => exact cb_ HR0_1.out); (case side2 => exact HC0_1.out); rintro e w16 ⟨rfl, hb⟩; replace HB := Aside0.mk (Zh hB_ hb); (try clear hb))); try go_wp2_with (first | ((with_reducible refine ZA (N := 1) rfl ?_); refine ZC ?hg (N := 1) ?hd (cs := #[.int .i64 a0_0, .slice A0_1 l0_1.length c0_1]) (t := 27) ?hr ?_; (case hd => rfl); (case hg => rfl); (case hr => first | (go_simp; done) | (go_simp; rfl)); intro gb577 hg w14 hbox hb; have BK577 := Aside0.mk (hbox); have GW577 := Aside0.mk ((hz_ hg : w.heap.size ≤ gb577)); have GE577 := Aside0.mk ((hz_ hg : w.heap.size ≤ gb577)); replace HB := Aside0.mk (Zh hB_ hb); clear hb hbox hg; obtain ⟨hcz15_0, hcz15_1, hfz15_0, hfz15_1⟩ := c2_ BK577.out; (try clear BK577)) | (go_at_call 24; (with_reducible refine (impl_IsGraph.calls k a0_0 _ _ l0_1 false _ ?side1 ?side2 A2.out).mono ?_); (case side1 => exact cb_ HR0_1.out); (case side2 => exact HC0_1.out); rintro e w16 ⟨rfl, hb⟩; replace HB := Aside0.mk (Zh hB_ hb); (try clear hb))))
  go_ret
  exact ⟨er_, hB_⟩
 subst c3
 rw [if_pos rfl] at H
 try dsimp only at H
 have H' := Aside0.mk H
 clear H
 go_enter Try.func49, Try.ntmps49
 go_wp2_with (first | ((with_reducible refine ZA (N := 1) rfl ?_); refine ZC ?hg (N := 1) ?hd (cs := #[.int .i64 a0_0, .slice A0_1 l0_1.length c0_1]) (t := 27) ?hr ?_; (case hd => rfl); (case hg => rfl); (case hr => first | (go_simp; done) | (go_simp; rfl)); intro gb577 hg w4 hbox hb; have BK577 := Aside0.mk (hbox); have GW577 := Aside0.mk ((hz_ hg : w.heap.size ≤ gb577)); have GE577 := Aside0.mk ((hz_ hg : w.heap.size ≤ gb577)); replace HB := Aside0.mk (Zh hB_ hb); clear hb hbox hg; obtain ⟨hcz5_0, hcz5_1, hfz5_0, hfz5_1⟩ := c2_ BK577.out) | (go_at_call 24; (with_reducible refine (impl_IsGraph.calls k a0_0 _ _ l0_1 true _ ?side1 ?side2 A2.out).mono ?_); (case side1 => exact cb_ HR0_1.out); (case side2 => exact HC0_1.out); rintro e w6 ⟨rfl, hb⟩; replace BK577 := Aside0.mk (Zg (bq_ BK577.out) hb); replace HB := Aside0.mk (Zh hB_ hb); (try clear hb); obtain ⟨hcz7_0, hcz7_1, hfz7_0, hfz7_1⟩ := c2_ BK577.out))
 repeat (go_quiet (first | ((with_reducible refine ZA (N := 1) rfl ?_); refine ZC ?hg (N := 1) ?hd (cs := #[.int .i64 a0_0, .slice A0_1 l0_1.length c0_1]) (t := 27) ?hr ?_; (case hd => rfl); (case hg => rfl); (case hr => first | (go_simp; done) | (go_simp; rfl)); intro gb577 hg w4 hbox hb; have BK577 := Aside0.mk (hbox); have GW577 := Aside0.mk ((hz_ hg : w.heap.size ≤ gb577)); have GE577 := Aside0.mk ((hz_ hg : w.heap.size ≤ gb577)); replace HB := Aside0.mk (Zh hB_ hb); clear hb hbox hg; obtain ⟨hcz5_0, hcz5_1, hfz5_0, hfz5_1⟩ := c2_ BK577.out) | (go_at_call 24; (with_reducible refine (impl_IsGraph.calls k a0_0 _ _ l0_1 true _ ?side1 ?side2 A2.out).mono ?_); (case side1 => exact cb_ HR0_1.out); (case side2 => exact HC0_1.out); rintro e w6 ⟨rfl, hb⟩; replace BK577 := Aside0.mk (Zg (bq_ BK577.out) hb); replace HB := Aside0.mk (Zh hB_ hb); (try clear hb); obtain ⟨hcz7_0, hcz7_1, hfz7_0, hfz7_1⟩ := c2_ BK577.out)); try go_wp2_with (first | ((with_reducible refine ZA (N := 1) rfl ?_); refine ZC ?hg (N := 1) ?hd (cs := #[.int .i64 a0_0, .slice A0_1 l0_1.length c0_1]) (t := 27) ?hr ?_; (case hd => rfl); (case hg => rfl); (case hr => first | (go_simp; done) | (go_simp; rfl)); intro gb577 hg w4 hbox hb; have BK577 := Aside0.mk (hbox); have GW577 := Aside0.mk ((hz_ hg : w.heap.size ≤ gb577)); have GE577 := Aside0.mk ((hz_ hg : w.heap.size ≤ gb577)); replace HB := Aside0.mk (Zh hB_ hb); clear hb hbox hg; obtain ⟨hcz5_0, hcz5_1, hfz5_0, hfz5_1⟩ := c2_ BK577.out) | (go_at_call 24; (with_reducible refine (impl_IsGraph.calls k a0_0 _ _ l0_1 true _ ?side1 ?side2 A2.out).mono ?_); (case side1 => exact cb_ HR0_1.out); (case side2 => exact HC0_1.out); rintro e w6 ⟨rfl, hb⟩; replace BK577 := Aside0.mk (Zg (bq_ BK577.out) hb); replace HB := Aside0.mk (Zh hB_ hb); (try clear hb); obtain ⟨hcz7_0, hcz7_1, hfz7_0, hfz7_1⟩ := c2_ BK577.out)))
 go_loopg [3, 13] k (fun kq v3 v13 w' => ∃ (x3_1 : Int) (x13_1 : Int), v3 = .int .i64 x3_1 ∧ v13 = .int .i64 x13_1 ∧ Aside0 (impl_CountLoops.l0 kq x3_1 l0_1 (l0_1.length : Int) x13_1 = some r) ∧ Aside0 (kq ≤ k) ∧ Aside0 (Below w.heap.size w w'))
 case atStart => exact ⟨(0), (0), sm_, sm_, H', ⟨Nat.le_refl _⟩, ⟨hB_⟩⟩
 case round =>
  clear H'
  try clear p2
  try clear c3
  try clear c4
  try clear hcz5_0
  try clear hcz5_1
  try clear hcz7_0
  try clear hcz7_1
  try clear hfz5_0
  try clear hfz5_1
  try clear hfz7_0
  try clear hfz7_1
  obtain ⟨x3_1, x13_1, rfl, rfl, HA, HK1, HB⟩ := hrel
  cases gk with
  | zero => exact absurd HA.out (by simp [impl_CountLoops.l0])
  | succ k1 =>
   have H := HA.out
   clear HA
   simp only [impl_CountLoops.l0] at H
   by_cases c8 : x13_1 < (l0_1.length : Int)
   rotate_left
   ·rw [if_neg c8] at H
    have c8b0 : decide (x13_1 < (l0_1.length : Int)) = false := decide_eq_false c8
    clear c8
    obtain rfl := Option.some.inj H
    go_wp2
    repeat (go_quiet (fail); try go_wp2)
    go_ret
    exact ⟨er_, hB_⟩
   rw [if_pos c8] at H
   have c8b0 : decide (x13_1 < (l0_1.length : Int)) = true := decide_eq_true c8
   clear c8
   by_cases c9 : 0 ≤ x13_1
   rotate_left
   ·rw [if_neg c9] at H
    exact absurd H (by simp)
   rw [if_pos c9] at H
   have c9b0 : decide (0 ≤ x13_1) = true := decide_eq_true c9
   clear c9
   by_cases c10 : x13_1 < (l0_1.length : Int)
   rotate_left
   ·rw [if_neg c10] at H
    exact absurd H (by simp)
   rw [if_pos c10] at H
   have c10b0 : decide (x13_1 < (l0_1.length : Int)) = true := decide_eq_true c10
   clear c10
   by_cases c11 : 0 < ((rd_L2 l0_1 x13_1).length : Int)
   rotate_left
   ·rw [if_neg c11] at H
    exact absurd H (by simp)
   rw [if_pos c11] at H
   have c11b0 : decide (0 < ((rd_L2 l0_1 x13_1).length : Int)) = true := decide_eq_true c11
   have c11b1 : decide (0 < (rd_L2 l0_1 x13_1).length) = true := decide_eq_true (by omega)
   clear c11
   by_cases c12 : 1 < ((rd_L2 l0_1 x13_1).length : Int)
   rotate_left
   ·rw [if_neg c12] at H
    exact absurd H (by simp)
   rw [if_pos c12] at H
   have c12b0 : decide (1 < ((rd_L2 l0_1 x13_1).length : Int)) = true := decide_eq_true c12
   have c12b1 : decide (1 < (rd_L2 l0_1 x13_1).length) = true := decide_eq_true (by omega)
   clear c12
   by_cases c13 : (rd (rd_L2 l0_1 x13_1) 0) = (rd (rd_L2 l0_1 x13_1) 1)
   rotate_left
   ·rw [if_neg c13] at H
    have c13b0 : ((rd (rd_L2 l0_1 x13_1) 0) == (rd (rd_L2 l0_1 x13_1) 1)) = false := beq_eq_false_iff_ne.mpr c13
    have c13b1 : ((rd (rd_L2 l0_1 x13_1) 0) != (rd (rd_L2 l0_1 x13_1) 1)) = true := bne_iff_ne.mpr c13
    have H' := Aside0.mk H
    clear H
    have p579 : 0 ≤ (x13_1 : Int) := of_decide_eq_true as_
    have q579 : x13_1 < (l0_1.length : Int) := of_decide_eq_true as_
    obtain ⟨ad579, A579_0, c579_0, e579, hx579_0, hl579_0, hi579_0⟩ := at_L2 HR0_1.out x13_1 p579 q579
    cases e579
    replace hx579_0 := (HB.out.cell (World.block_lt_of_cell? w _ hx579_0)).trans hx579_0
    have HR579_0 := Aside0.mk hi579_0
    have HC579_0 := Aside0.mk hl579_0
    clear hi579_0 hl579_0
    replace p579 := eq_true p579
    replace q579 := eq_true q579
    have p580 : 0 ≤ (0 : Int) := (by omega)
    have q580 : 0 < ((rd_L2 l0_1 x13_1).length : Int) := of_decide_eq_true as_
    obtain ⟨ad580, e580, hx580_0⟩ := Zx HR579_0.out 0 p580 q580
    cases e580
    have qi580 : (0 < (rd_L2 l0_1 x13_1).length) = True := eq_true (by omega)
    (try rw [show ((0 : Int)).toNat = 0 from rfl] at hx580_0)
    (try rw [Addr.add_zero'] at hx580_0)
    replace hx580_0 := (HB.out.cell (World.block_lt_of_cell? w _ hx580_0)).trans hx580_0
    replace p580 := eq_true p580
    replace q580 := eq_true q580
    have p581 : 0 ≤ (1 : Int) := (by omega)
    have q581 : 1 < ((rd_L2 l0_1 x13_1).length : Int) := of_decide_eq_true as_
    obtain ⟨ad581, e581, hx581_0⟩ := Zx HR579_0.out 1 p581 q581
    obtain rfl : ad580 = ad581 := (by injection e581)
    (try simp only [show (1 : Int).toNat = 1 from rfl, Nat.reduceMul, Nat.reduceEqDiff, Go.Addr.add, ↓reduceIte] at hx581_0)
    have qi581 : (1 < (rd_L2 l0_1 x13_1).length) = True := eq_true (by omega)
    (try rw [show ((1 : Int)).toNat = 1 from rfl] at hx581_0)
    replace hx581_0 := (HB.out.cell (World.block_lt_of_cell? w _ hx581_0)).trans hx581_0
    replace p581 := eq_true p581
    replace q581 := eq_true q581
    go_wp2
    repeat (go_quiet (fail); try go_wp2)
    go_roundg k1
    case measure => have := HK1.out; omega
    case rel => exact ⟨(x3_1), (wrap64 (x13_1 + 1)), sm_, sm_, H', ⟨by have := HK1.out; omega⟩, ⟨hB_⟩⟩
   rw [if_pos c13] at H
   have c13b0 : ((rd (rd_L2 l0_1 x13_1) 0) == (rd (rd_L2 l0_1 x13_1) 1)) = true := beq_iff_eq.mpr c13
   have c13b1 : ((rd (rd_L2 l0_1 x13_1) 0) != (rd (rd_L2 l0_1 x13_1) 1)) = false := bne_eq_false_iff_eq.mpr c13
   clear c13
   have H' := Aside0.mk H
   clear H
   have p579 : 0 ≤ (x13_1 : Int) := of_decide_eq_true as_
   have q579 : x13_1 < (l0_1.length : Int) := of_decide_eq_true as_
   obtain ⟨ad579, A579_0, c579_0, e579, hx579_0, hl579_0, hi579_0⟩ := at_L2 HR0_1.out x13_1 p579 q579
   cases e579
   replace hx579_0 := (HB.out.cell (World.block_lt_of_cell? w _ hx579_0)).trans hx579_0
   have HR579_0 := Aside0.mk hi579_0
   have HC579_0 := Aside0.mk hl579_0
   clear hi579_0 hl579_0
   replace p579 := eq_true p579
   replace q579 := eq_true q579
   have p580 : 0 ≤ (0 : Int) := (by omega)
   have q580 : 0 < ((rd_L2 l0_1 x13_1).length : Int) := of_decide_eq_true as_
   obtain ⟨ad580, e580, hx580_0⟩ := Zx HR579_0.out 0 p580 q580
   cases e580
   have qi580 : (0 < (rd_L2 l0_1 x13_1).length) = True := eq_true (by omega)
   (try rw [show ((0 : Int)).toNat = 0 from rfl] at hx580_0)
   (try rw [Addr.add_zero'] at hx580_0)
   replace hx580_0 := (HB.out.cell (World.block_lt_of_cell? w _ hx580_0)).trans hx580_0
   replace p580 := eq_true p580
   replace q580 := eq_true q580
   have p581 : 0 ≤ (1 : Int) := (by omega)
   have q581 : 1 < ((rd_L2 l0_1 x13_1).length : Int) := of_decide_eq_true as_
   obtain ⟨ad581, e581, hx581_0⟩ := Zx HR579_0.out 1 p581 q581
   obtain rfl : ad580 = ad581 := (by injection e581)
   (try simp only [show (1 : Int).toNat = 1 from rfl, Nat.reduceMul, Nat.reduceEqDiff, Go.Addr.add, ↓reduceIte] at hx581_0)
   have qi581 : (1 < (rd_L2 l0_1 x13_1).length) = True := eq_true (by omega)
   (try rw [show ((1 : Int)).toNat = 1 from rfl] at hx581_0)
   replace hx581_0 := (HB.out.cell (World.block_lt_of_cell? w _ hx581_0)).trans hx581_0
   replace p581 := eq_true p581
   replace q581 := eq_true q581
   go_wp2
   repeat (go_quiet (fail); try go_wp2)
   go_roundg k1
   case measure => have := HK1.out; omega
   case rel => exact ⟨(wrap64 (x3_1 + 1)), (wrap64 (x13_1 + 1)), sm_, sm_, H', ⟨by have := HK1.out; omega⟩, ⟨hB_⟩⟩

-- NOT PRINTED: function 98 (slices_IndexFunc_int_int)

/-! ### impl_RoundOf: function 50 -/
/-- The first row that holds a number. -/
def inRnd.l0 : Nat → List (List Int) → Int → Int → Option Int
  | 0, _, _, _ => none
  | k + 1, x0, x1, x8 => if x8 < (x0.length : Int) then (if 0 ≤ x8 then ((slices_Contains_int_int.f k (rd_L2 x0 x8) x1).bind fun t => (if t = true then (some x8) else (inRnd.l0 k x0 x1 (wrap64 (x8 + 1))))) else (none)) else (some (-1))
theorem inRnd.mono_l : ∀ k, (∀ y0 y1 y2, LeO (inRnd.l0 k y0 y1 y2) (inRnd.l0 (k + 1) y0 y1 y2))
  | 0 => fun _ _ _ => by (unfold inRnd.l0; exact Zn _)
  | k + 1 => by
    have ih0 := inRnd.mono_l k
    · intro y0 y1 y2
      unfold inRnd.l0
      repeat' with_reducible first | apply ih0 | apply slices_Contains_int_int.mono | apply ZJ | apply Zn | refine Zu ?_ ?_ | refine Zo ?_ (fun _ => ?_)
def impl_RoundOf.f (k : Nat) (a0_0 : Int) (l0_1 : List (List Int)) (a1 : Int) : Option Int := (impl_rounds.f k a0_0 l0_1).bind fun t1 => ((inRnd.l0 k t1 a1 0).bind fun t2 => (some t2))
theorem impl_RoundOf.mono : ∀ a0 a1 a2 k, LeO (impl_RoundOf.f k a0 a1 a2) (impl_RoundOf.f (k + 1) a0 a1 a2) := by
  intro a0 a1 a2 k
  unfold impl_RoundOf.f
  exact Zo (impl_rounds.mono _ _ _) (fun _ => Zo (inRnd.mono_l _ _ _ _) (fun _ => ZJ _))
/-- The function value at a row, with the number in its box. -/
theorem inRnd.fn (k : Nat) (A0 : Option Addr) (c0 : Nat) (l0 : List Int) (x : Int) (B : Nat) (r : Bool) (w : World) (hr0 : Kd.C (Kd.int .i64) w A0 l0.length l0) (hc0 : l0.length ≤ c0) (hcell : w.cell? ⟨B, 0, none⟩ = some (.int .i64 x)) (h : slices_Contains_int_int.f k l0 x = some r) :
    Calls Try.prog 99 #[.slice A0 l0.length c0, .pointer (some ⟨B, 0, none⟩)] w fun e w' => e = .returned (.bool r) ∧ Drawn0 w w' := by
  have hcon := fun W (h0 : Kd.C (Kd.int .i64) W A0 l0.length l0) => slices_Contains_int_int.calls k A0 c0 l0 x r W h0 hc0 h
  go_enter Try.func99, Try.ntmps99
  go_wp2_with (go_at_call 80; refine (hcon _ (by first | exact hr0 | exact ZQ hr0 | exact ZH hr0 _)).mono ?_; rintro e w' ⟨rfl, ⟨nd, rfl⟩⟩)
  go_ret
  exact ⟨by first | rfl | (cases r <;> rfl) | (cases r <;> simp), dr_⟩
theorem inRnd.finds (k : Nat) (A0 : Option Addr) (c0 : Nat) (l0 : List (List Int)) (x : Int) (B : Nat) (r : Int) (w : World) (hr0 : Kd.C (Kd.slice 3 (Kd.int .i64)) w A0 l0.length l0) (hc0 : l0.length ≤ c0) (hB : B < w.heap.size) (hcell : w.cell? ⟨B, 0, none⟩ = some (.int .i64 x)) (h : inRnd.l0 k l0 x 0 = some r) :
    Calls Try.prog 98 #[.slice A0 l0.length c0, .func (.func 99) #[] #[.pointer (some ⟨B, 0, none⟩)]] w fun e w' => e = .returned (.int .i64 r) ∧ Drawn0 w w' := by
  have eg : ∀ args w, (callFunc 99 args).run Try.prog w = .ok (.enter 99 args) w := enters_of Try.func99 (by kernel_rfl) rfl
  have H' := Aside0.mk h
  have HR0 := Aside0.mk hr0
  have HCELL := Aside0.mk hcell
  have HBB := Aside0.mk hB
  clear h hr0 hcell hB
  go_enter Try.func98, Try.ntmps98
  go_wp2
  go_loopg [5, 8] k (fun kq _ v8 w' => ∃ (x8_1 : Int), v8 = .int .i64 x8_1 ∧ Aside0 (inRnd.l0 kq l0 x x8_1 = some r) ∧ Aside0 (kq ≤ k) ∧ Drawn0 w w')
  case atStart => exact ⟨0, rfl, H', ⟨Nat.le_refl _⟩, dr_⟩
  case round =>
    clear H'
    obtain ⟨x8_1, rfl, HA, HK1, ⟨m1, rfl⟩⟩ := hrel
    cases gk with
    | zero => exact absurd HA.out (by simp [inRnd.l0])
    | succ k1 =>
      have H := HA.out
      clear HA
      simp only [inRnd.l0] at H
      by_cases c3 : x8_1 < (l0.length : Int)
      rotate_left
      ·rw [if_neg c3] at H
       have c3b0 : decide (x8_1 < (l0.length : Int)) = false := decide_eq_false c3
       clear c3
       obtain rfl := Option.some.inj H
       go_wp2
       go_ret
       exact ⟨rfl, dr_⟩
      rw [if_pos c3] at H
      have c3b0 : decide (x8_1 < (l0.length : Int)) = true := decide_eq_true c3
      by_cases c4 : 0 ≤ x8_1
      rotate_left
      ·rw [if_neg c4] at H
       exact absurd H (by simp)
      rw [if_pos c4] at H
      have c4b0 : decide (0 ≤ x8_1) = true := decide_eq_true c4
      have p101 : 0 ≤ (x8_1 : Int) := c4
      have q101 : x8_1 < (l0.length : Int) := c3
      clear c3 c4
      obtain ⟨ad101, A101_0, c101_0, e101, hx101_0, hl101_0, hi101_0⟩ := at_L2 HR0.out x8_1 p101 q101
      cases e101
      obtain ⟨t102, hcall, H⟩ : ∃ t102 : Bool, (Calls Try.prog 99 (#[.slice A101_0 (rd_L2 l0 x8_1).length c101_0] ++ #[.pointer (some ⟨B, 0, none⟩)]) (w.drewN m1) fun e w' => e = .returned (.bool t102) ∧ Drawn0 (w.drewN m1) w') ∧ (if t102 = true then (some x8_1) else (inRnd.l0 k1 l0 x (wrap64 (x8_1 + 1)))) = some r := by
        have hce := (((Zi (Below.refl w.heap.size w) m1).cell (p := ⟨B, 0, none⟩) HBB.out).trans HCELL.out)
        obtain ⟨t, hw, H⟩ := Option.bind_eq_some_iff.mp H
        refine ⟨t, inRnd.fn k1 A101_0 c101_0 (rd_L2 l0 x8_1) x B t (w.drewN m1) (ZH hi101_0 _) hl101_0 hce hw, H⟩
      clear hi101_0 hl101_0
      replace p101 := eq_true p101
      replace q101 := eq_true q101
      cases t102 with
      | true =>
        rw [if_pos rfl] at H
        obtain rfl := Option.some.inj H
        go_wp2_with (go_at_call 99; refine hcall.mono ?_; rintro e w' ⟨rfl, ⟨nd, rfl⟩⟩)
        go_ret
        exact ⟨rfl, dr_⟩
      | false =>
        rw [if_neg (by decide)] at H
        have H' := Aside0.mk H
        clear H
        go_wp2_with (go_at_call 99; refine hcall.mono ?_; rintro e w' ⟨rfl, ⟨nd, rfl⟩⟩)
        go_roundg k1
        case measure => have := HK1.out; omega
        case rel => exact ⟨(wrap64 (x8_1 + 1)), sm_, H', ⟨by have := HK1.out; omega⟩, dr_⟩
theorem impl_RoundOf.calls (k : Nat) (a0_0 : Int) (A0_1 : Option Addr) (c0_1 : Nat) (l0_1 : List (List Int)) (a1 : Int) (r : Int) (w : World) (hr0_1 : Kd.C (Kd.slice 3 (Kd.int .i64)) w A0_1 l0_1.length l0_1) (hc0_1 : l0_1.length ≤ c0_1) (h : impl_RoundOf.f k a0_0 l0_1 a1 = some r) :
    Calls Try.prog 50 #[.agg #[.int .i64 a0_0, .slice A0_1 l0_1.length c0_1], .int .i64 a1] w fun e w' => e = .returned (.int .i64 r) ∧ Below w.heap.size w w' := by
  have hu27 := Try.underlying27
  have HR0_1 := Aside0.mk hr0_1
  have HC0_1 := Aside0.mk hc0_1
  clear hr0_1 hc0_1
  have HB := Aside0.mk (Below.refl w.heap.size w)
  have H := h
  unfold impl_RoundOf.f at H
  clear h
  replace H := Option.bind_eq_some_iff.mp H
  obtain ⟨t599, A30, H⟩ := H
  have A3 := Aside0.mk A30
  clear A30
  replace H := Option.bind_eq_some_iff.mp H
  obtain ⟨t602, A40, H⟩ := H
  have A4 := Aside0.mk A40
  clear A40
  obtain rfl := Option.some.inj H
  go_enter Try.func50, Try.ntmps50
  go_wp2_with (first
    | ((with_reducible refine ZA (N := 2) rfl ?_); refine ZC ?hg (N := 2) ?hd (cs := #[.int .i64 a0_0, .slice A0_1 l0_1.length c0_1]) (t := 27) ?hr ?_; (case hd => rfl); (case hg => rfl); (case hr => first | (go_simp; done) | (go_simp; rfl)); intro gb598 hg w6 hbox hb; have n0_ := Aside0.mk (Zh hB_ hb); have BK598 := Aside0.mk (hbox); have GE598 := Aside0.mk ((hz_ hg : w.heap.size ≤ gb598)); clear HB; have HB := n0_; clear n0_; clear hb hbox hg; obtain ⟨hcz7_0, hcz7_1, hfz7_0, hfz7_1⟩ := c2_ BK598.out)
    | ((with_reducible refine ZA (N := 3) rfl ?_); refine ZC ?hg (N := 3) ?hd (cs := #[.int .i64 a1]) (t := 3) ?hr ?_; (case hd => rfl); (case hg => rfl); (case hr => first | (go_simp; done) | (go_simp; rfl)); intro gb599 hg w8 hbox hb; have n0_ := Aside0.mk (Zh hB_ hb); have n1_ := Aside0.mk (Zg (bq_ BK598.out) hb); have BK599 := Aside0.mk (hbox); have GE599 := Aside0.mk ((hz_ hg : w.heap.size ≤ gb599)); clear HB BK598; have HB := n0_; have BK598 := n1_; clear n0_ n1_; clear hb hbox hg; clear hcz7_0 hcz7_1 hfz7_0 hfz7_1; obtain ⟨hcz8_0, hcz8_1, hfz8_0, hfz8_1⟩ := c2_ BK598.out)
    | (go_at_call 78; (with_reducible refine (impl_rounds.calls k a0_0 _ _ l0_1 t599 _ ?side1 ?side2 A3.out).mono ?_); (case side1 => exact cb_ HR0_1.out); (case side2 => exact HC0_1.out); rintro e w9 ⟨v600, rfl, ho0, hb⟩; have n2_ := Aside0.mk (Zg (bq_ BK599.out) hb); have n3_ := Aside0.mk (Zh hB_ hb); obtain ⟨Ao9, co9, eo9⟩ := Kd.N_slice ho0; subst eo9; have HO601 := Aside0.mk (Kd.N_reads' ho0).2; clear BK598 BK599 HB; have BK599 := n2_; have HB := n3_; clear n2_ n3_; (try clear hb); (try clear ho0); have hcz9 : w9.cell? ⟨gb599, 0, none⟩ = some (.int .i64 a1) := (Za BK599.out 0).trans rfl; have HCR := fun m => inRnd.finds k Ao9 co9 t599 a1 gb599 t602 (w9.drewN m) (ZH HO601.out.2 _) HO601.out.1 (ZS (Ze BK599.out m)) ((Za (Ze BK599.out m) 0).trans rfl) A4.out; have HCR0 := inRnd.finds k Ao9 co9 t599 a1 gb599 t602 w9 HO601.out.2 HO601.out.1 (ZS BK599.out) hcz9 A4.out)
    | (go_at_call 98; first | (refine HCR0.mono ?_; rintro e w' ⟨rfl, ⟨nd, rfl⟩⟩) | (refine (HCR _).mono ?_; rintro e w' ⟨rfl, ⟨nd, rfl⟩⟩)))
  go_ret
  exact ⟨by first | rfl | (simp; done), hB_⟩

end Go.Proofs.Ytdlobolnajcfnaa.PFnDisputes
