-- Written by a program of this session (hooks of mine on the print): Lean checks it.
import Derived.Test.YtdlobolnajcfnaaPFnPositionsx0
import Derived.Test.YtdlobolnajcfnaaPFnPositionsx6
import Derived.Test.YtdlobolnajcfnaaPFnPositionsx7
import Derived.Test.YtdlobolnajcfnaaPFnPositionsx8
import Derived.Test.YtdlobolnajcfnaaPFnPositionsx9
namespace Go.Proofs.Ytdlobolnajcfnaa.PFnPositions
open Go.RowKit Go.Proofs.YtdlobolnajcfnaaW.PrintWords Go.Proofs.YtdlobolnajcfnaaW.PrintLast Go.Proofs.YtdlobolnajcfnaaW.PrintMore
attribute [local go_sem] max2_int min2_int max_two min_two max_three min_three max_four min_four   -- for this text's walks alone
set_option linter.unusedVariables false
set_option linter.unusedSimpArgs false
set_option maxHeartbeats 8000000
set_option maxRecDepth 100000

/-! ### impl_DefendedBy: function 77 -/
def impl_DefendedBy.l0 : Nat → List Int → List Int → Int → Int → Int → List (List Int) → Option (List Int)
 | 0, _, _, _, _, _, _ => none
 | k + 1, x1, x5, x14, x15, x383000, x383001 => if x15 < x14 then ((impl_Defends.f k x383000 x383001 x1 x15).bind fun t387 => (if t387 = true then (if x5.length < 17592186044416 then (impl_DefendedBy.l0 k x1 (x5 ++ [x15]) x14 (wrap64 (x15 + 1)) x383000 x383001) else (none)) else (impl_DefendedBy.l0 k x1 x5 x14 (wrap64 (x15 + 1)) x383000 x383001))) else (some x5)
def impl_DefendedBy.f (k : Nat) (a0_0 : Int) (l0_1 : List (List Int)) (l1 : List Int) : Option (List Int) := (some (([] : List Int) : List Int)).bind fun y383 => ((impl_IsSet.f k a0_0 l0_1 l1).bind fun t386 => (if t386 = true then (impl_DefendedBy.l0 k l1 y383 a0_0 0 a0_0 l0_1) else (some y383)))
theorem impl_DefendedBy.mono_l : ∀ k, (∀ y0 y1 y2 y3 y4 y5, LeO (impl_DefendedBy.l0 k y0 y1 y2 y3 y4 y5) (impl_DefendedBy.l0 (k + 1) y0 y1 y2 y3 y4 y5))
 | 0 => fun _ _ _ _ _ _ r h => by simp [impl_DefendedBy.l0] at h
 | k + 1 => by
  have ih0 := impl_DefendedBy.mono_l k
  ·intro y0 y1 y2 y3 y4 y5
   unfold impl_DefendedBy.l0
   repeat' with_reducible first | apply ih0 | apply impl_Defends.mono | apply impl_IsSet.mono | apply Zy | apply Zg | refine Zl ?_ ?_ | refine Zh ?_ (fun _ => ?_)
theorem impl_DefendedBy.mono : ∀ a0 a1 a2 k, LeO (impl_DefendedBy.f k a0 a1 a2) (impl_DefendedBy.f (k + 1) a0 a1 a2) := by
 intro a0 a1 a2 k
 have ih0 := impl_DefendedBy.mono_l k
 unfold impl_DefendedBy.f
 repeat' with_reducible first | apply ih0 | apply impl_Defends.mono | apply impl_IsSet.mono | apply Zy | apply Zg | refine Zl ?_ ?_ | refine Zh ?_ (fun _ => ?_)
theorem impl_DefendedBy.calls (k : Nat) (a0_0 : Int) (A0_1 : Option Addr) (c0_1 : Nat) (l0_1 : List (List Int)) (A1 : Option Addr) (c1 : Nat) (l1 : List Int) (r : List Int) (w : World) (hr0_1 : Kd.C (Kd.slice 3 (Kd.int .i64)) w A0_1 l0_1.length l0_1) (hc0_1 : l0_1.length ≤ c0_1) (hr1 : Kd.C (Kd.int .i64) w A1 l1.length l1) (hc1 : l1.length ≤ c1) (h : impl_DefendedBy.f k a0_0 l0_1 l1 = some r) :
  Calls Try.prog 77 #[.agg #[.int .i64 a0_0, .slice A0_1 l0_1.length c0_1], .slice A1 l1.length c1] w fun e w' => ∃ v0_ : Value, e = .returned (v0_) ∧ Kd.R (Kd.int .i64) 3 w' w.heap.size (fun _ => True) v0_ r ∧ Below w.heap.size w w' := by
 have hu27 := Try.underlying27
 have HR0_1 := Aside0.mk hr0_1
 have HC0_1 := Aside0.mk hc0_1
 clear hr0_1 hc0_1
 have HR1 := Aside0.mk hr1
 have HC1 := Aside0.mk hc1
 clear hr1 hc1
 have HB := Aside0.mk (Below.refl w.heap.size w)
 have H := h
 unfold impl_DefendedBy.f at H
 clear h
 obtain ⟨y383, hy383⟩ : ∃ y_ : List Int, y_ = (([] : List Int)) := ⟨_, rfl⟩
 replace H : ((impl_IsSet.f k a0_0 l0_1 l1).bind fun t386 => (if t386 = true then (impl_DefendedBy.l0 k l1 y383 a0_0 0 a0_0 l0_1) else (some y383))) = some r := hy_ hy383 H
 have Ny383 := Aside0.mk hy383
 clear hy383
 obtain ⟨t386, A3, H⟩ := bd_ H
 try dsimp only at H
 by_cases c4 : t386 = true
 rotate_left
 ·replace c4 := Bool.eq_false_iff.mpr c4
  subst c4
  rw [if_neg (show ¬ (false = true) by decide)] at H
  try dsimp only at H
  obtain rfl := Option.some.inj H
  go_enter Try.func77, Try.ntmps77
  go_wp2_with (first | ((with_reducible refine Zz (N := 2) rfl ?_); refine ZI ?hg (N := 2) ?hd (cs := #[.int .i64 a0_0, .slice A0_1 l0_1.length c0_1]) (t := 27) ?hr ?_; (case hd => rfl); (case hg => rfl); (case hr => first | (go_simp; done) | (go_simp; rfl)); intro gb382 hg w20 hbox hb; have BK382 := Aside0.mk (hbox); have GW382 := Aside0.mk ((hz_ hg : w.heap.size ≤ gb382)); have GE382 := Aside0.mk ((hz_ hg : w.heap.size ≤ gb382)); replace HB := Aside0.mk (Zc hB_ hb); clear hb hbox hg) | ((with_reducible refine Zz (N := 7) rfl ?_); refine Kd.R_lit (Kd.int .i64) _ 3 ?hg (N := 7) ?hd (xs := ([] : List Int)) (inner := []) (ok := fun _ => True) (okp := fun _ => True) ?hr ?hp (fun _ hk => hk) trivial (Below.refl _ _) (Nat.le_refl _) (by simp) ?_; (case hd => rfl); (case hg => rfl); (case hr => first | (go_simp; done) | (go_simp; rfl)); (case hp => exact (Reps.none _ _)); intro v384 w21 ho22 hb hg_ hnew_; clear hg_ hnew_; (first | rw [← Ny383.out] at ho22 | (simp only [Int.reduceToNat] at ho22; rw [← Ny383.out] at ho22)); have HO385 := Aside0.mk (Kd.R_lower ho22 (Ze hB_)); replace BK382 := Aside0.mk (Zd (bq_ BK382.out) hb); replace HB := Aside0.mk (Zc hB_ hb); clear hb ho22; obtain ⟨hcz23_0, hcz23_1, hfz23_0, hfz23_1⟩ := c2_ BK382.out) | ((with_reducible refine Zf (f := 90) rfl ?_); refine ZC (some 10) rfl rfl Try.func90 (by kernel_rfl) rfl #[.agg #[.int .i64 a0_0, .slice A0_1 l0_1.length c0_1], .slice A1 l1.length c1] rfl ar_ ?_; (with_reducible refine (impl_IsSet.calls k a0_0 _ _ l0_1 _ _ l1 false _ ?side1 ?side2 ?side3 ?side4 A3.out).mono ?_); (case side1 => exact cb_ HR0_1.out); (case side2 => exact HC0_1.out); (case side3 => exact cb_ HR1.out); (case side4 => exact HC1.out); rintro e w24 ⟨rfl, hb⟩; refine ⟨_, rfl, ?_⟩; replace HO385 := Aside0.mk (Kd.R_below (rR_ HO385.out) hb); replace BK382 := Aside0.mk (Zd (bq_ BK382.out) hb); replace HB := Aside0.mk (Zc hB_ hb); (try clear hb); (try clear hk)))
  go_ret
  exact ⟨_, er_, rR_ HO385.out, hB_⟩
 subst c4
 rw [if_pos rfl] at H
 try dsimp only at H
 have H' := Aside0.mk H
 clear H
 go_enter Try.func77, Try.ntmps77
 go_wp2_with (first | ((with_reducible refine Zz (N := 2) rfl ?_); refine ZI ?hg (N := 2) ?hd (cs := #[.int .i64 a0_0, .slice A0_1 l0_1.length c0_1]) (t := 27) ?hr ?_; (case hd => rfl); (case hg => rfl); (case hr => first | (go_simp; done) | (go_simp; rfl)); intro gb382 hg w5 hbox hb; have BK382 := Aside0.mk (hbox); have GW382 := Aside0.mk ((hz_ hg : w.heap.size ≤ gb382)); have GE382 := Aside0.mk ((hz_ hg : w.heap.size ≤ gb382)); replace HB := Aside0.mk (Zc hB_ hb); clear hb hbox hg) | ((with_reducible refine Zz (N := 7) rfl ?_); refine Kd.R_lit (Kd.int .i64) _ 3 ?hg (N := 7) ?hd (xs := ([] : List Int)) (inner := []) (ok := fun _ => True) (okp := fun _ => True) ?hr ?hp (fun _ hk => hk) trivial (Below.refl _ _) (Nat.le_refl _) (by simp) ?_; (case hd => rfl); (case hg => rfl); (case hr => first | (go_simp; done) | (go_simp; rfl)); (case hp => exact (Reps.none _ _)); intro v384 w6 ho7 hb hg_ hnew_; clear hg_ hnew_; (first | rw [← Ny383.out] at ho7 | (simp only [Int.reduceToNat] at ho7; rw [← Ny383.out] at ho7)); have HO385 := Aside0.mk (Kd.R_lower ho7 (Ze hB_)); replace BK382 := Aside0.mk (Zd (bq_ BK382.out) hb); replace HB := Aside0.mk (Zc hB_ hb); clear hb ho7; obtain ⟨hcz8_0, hcz8_1, hfz8_0, hfz8_1⟩ := c2_ BK382.out) | ((with_reducible refine Zf (f := 90) rfl ?_); refine ZC (some 10) rfl rfl Try.func90 (by kernel_rfl) rfl #[.agg #[.int .i64 a0_0, .slice A0_1 l0_1.length c0_1], .slice A1 l1.length c1] rfl ar_ ?_; (with_reducible refine (impl_IsSet.calls k a0_0 _ _ l0_1 _ _ l1 true _ ?side1 ?side2 ?side3 ?side4 A3.out).mono ?_); (case side1 => exact cb_ HR0_1.out); (case side2 => exact HC0_1.out); (case side3 => exact cb_ HR1.out); (case side4 => exact HC1.out); rintro e w9 ⟨rfl, hb⟩; refine ⟨_, rfl, ?_⟩; replace HO385 := Aside0.mk (Kd.R_below (rR_ HO385.out) hb); replace BK382 := Aside0.mk (Zd (bq_ BK382.out) hb); replace HB := Aside0.mk (Zc hB_ hb); (try clear hb); (try clear hk); obtain ⟨hcz10_0, hcz10_1, hfz10_0, hfz10_1⟩ := c2_ BK382.out))
 go_loopg [5, 15] k (fun kq v5 v15 w' => ∃ (x5_1 : List Int) (x15_1 : Int), v15 = .int .i64 x15_1 ∧ Aside0 (impl_DefendedBy.l0 kq l1 x5_1 a0_0 x15_1 a0_0 l0_1 = some r) ∧ Aside0 (kq ≤ k) ∧ Aside0 (Kd.R (Kd.int .i64) 3 w' w.heap.size (fun _ => True) v5 x5_1) ∧ Aside0 (w'.heap[gb382]? = some (.cells #[.int .i64 a0_0, (.slice A0_1 l0_1.length c0_1)] 27 (0, 0))) ∧ Aside0 (Below w.heap.size w w'))
 case atStart => exact ⟨(y383), (0), sm_, H', ⟨Nat.le_refl _⟩, ⟨rR_ HO385.out⟩, ⟨bk_ BK382.out⟩, ⟨hB_⟩⟩
 case round =>
  clear H'
  try clear c1
  try clear p2
  try clear c4
  try clear c7
  try clear c9
  try clear hcz10_0
  try clear hcz10_1
  try clear hcz8_0
  try clear hcz8_1
  try clear hfz10_0
  try clear hfz10_1
  try clear hfz8_0
  try clear hfz8_1
  obtain ⟨x5_1, x15_1, rfl, HA, HK1, HO_5, BK382, HB⟩ := hrel
  cases gk with
  | zero => exact absurd HA.out (by simp [impl_DefendedBy.l0])
  | succ k1 =>
   have H := HA.out
   clear HA
   simp only [impl_DefendedBy.l0] at H
   by_cases c11 : x15_1 < a0_0
   rotate_left
   ·rw [if_neg c11] at H
    have c11b0 : decide (x15_1 < a0_0) = false := decide_eq_false c11
    clear c11
    obtain rfl := Option.some.inj H
    go_wp2
    go_ret
    exact ⟨_, er_, rR_ HO_5.out, hB_⟩
   rw [if_pos c11] at H
   have c11b0 : decide (x15_1 < a0_0) = true := decide_eq_true c11
   clear c11
   obtain ⟨t387, A12, H⟩ := bd_ H
   try dsimp only at H
   by_cases c13 : t387 = true
   rotate_left
   ·replace c13 := Bool.eq_false_iff.mpr c13
    subst c13
    rw [if_neg (show ¬ (false = true) by decide)] at H
    try dsimp only at H
    have H' := Aside0.mk H
    clear H
    obtain ⟨hcz18_0, hcz18_1, hfz18_0, hfz18_1⟩ := c2_ BK382.out
    go_wp2_with (first | ((with_reducible refine Zf (f := 115) rfl ?_); refine ZC (some 21) rfl rfl Try.func115 (by kernel_rfl) rfl #[.agg #[.int .i64 a0_0, .slice A0_1 l0_1.length c0_1], .slice A1 l1.length c1, .int .i64 x15_1] rfl ar_ ?_; (with_reducible refine (impl_Defends.calls k1 a0_0 _ _ l0_1 _ _ l1 x15_1 false _ ?side1 ?side2 ?side3 ?side4 A12.out).mono ?_); (case side1 => exact cb_ HR0_1.out); (case side2 => exact HC0_1.out); (case side3 => exact cb_ HR1.out); (case side4 => exact HC1.out); rintro e w19 ⟨rfl, hb⟩; refine ⟨_, rfl, ?_⟩; replace HO_5 := Aside0.mk (Kd.R_below (rR_ HO_5.out) hb); replace BK382 := Aside0.mk (Zd (bq_ BK382.out) hb); replace HB := Aside0.mk (Zc hB_ hb); (try clear hb)))
    go_roundg k1
    case measure => have := HK1.out; omega
    case rel => exact ⟨(x5_1), (wrap64 (x15_1 + 1)), sm_, H', ⟨by have := HK1.out; omega⟩, ⟨rR_ HO_5.out⟩, ⟨bk_ BK382.out⟩, ⟨hB_⟩⟩
   subst c13
   rw [if_pos rfl] at H
   try dsimp only at H
   by_cases c14 : x5_1.length < 17592186044416
   rotate_left
   ·rw [if_neg c14] at H
    exact absurd H (by simp)
   rw [if_pos c14] at H
   have LMc14 := Aside0.mk c14
   clear c14
   obtain ⟨y388, hy388⟩ : ∃ y_ : List Int, y_ = (x5_1 ++ [x15_1]) := ⟨_, rfl⟩
   replace H : (impl_DefendedBy.l0 k1 l1 y388 a0_0 (wrap64 (x15_1 + 1)) a0_0 l0_1) = some r := hy_ hy388 H
   have Ny388 := Aside0.mk hy388
   clear hy388
   have H' := Aside0.mk H
   clear H
   obtain ⟨hcz15_0, hcz15_1, hfz15_0, hfz15_1⟩ := c2_ BK382.out
   go_wp2_with (first | ((with_reducible refine Zf (f := 115) rfl ?_); refine ZC (some 21) rfl rfl Try.func115 (by kernel_rfl) rfl #[.agg #[.int .i64 a0_0, .slice A0_1 l0_1.length c0_1], .slice A1 l1.length c1, .int .i64 x15_1] rfl ar_ ?_; (with_reducible refine (impl_Defends.calls k1 a0_0 _ _ l0_1 _ _ l1 x15_1 true _ ?side1 ?side2 ?side3 ?side4 A12.out).mono ?_); (case side1 => exact cb_ HR0_1.out); (case side2 => exact HC0_1.out); (case side3 => exact cb_ HR1.out); (case side4 => exact HC1.out); rintro e w16 ⟨rfl, hb⟩; refine ⟨_, rfl, ?_⟩; replace HO_5 := Aside0.mk (Kd.R_below (rR_ HO_5.out) hb); replace BK382 := Aside0.mk (Zd (bq_ BK382.out) hb); replace HB := Aside0.mk (Zc hB_ hb); (try clear hb); (try clear hk)) | ((with_reducible refine gate_builtin (b := .append) (xs := #[.tmp 22, .tmp 24]) rfl ?_); at_builtin; refine Kd.R_append (Kd.int .i64) (w0 := w) w.heap.size rfl (.tmp 22) (.tmp 24) 31 3 (.int .i64 0) 8 rfl Try.underlying31 info3 rfl (by decide) (by omega) u5 x5_1 x15_1 [.int .i64 x15_1] (fun _ => True) (fun _ => False) rfl rfl ?aP (fun _ hk => hk.elim) ?aF ?aO ?aB ?aS ?aL ?_; (case aP => exact rfl); (case aB => exact hB_); (case aF => exact (fun _ _ => trivial)); (case aO => exact (rR_ HO_5.out)); (case aS => exact (Ze hB_)); (case aL => have := LMc14.out; omega); intro v389 w17 ho hb hg hat; rw [← Ny388.out] at ho; have n0_ := Aside0.mk (ZJ (bq_ BK382.out) hg (Kd.R_ne HO_5.out BK382.out (by decide))); have n1_ := Aside0.mk (hb); have n2_ := Aside0.mk (ho); clear BK382; clear HB; clear HO_5; have BK382 := n0_; have HB := n1_; have HO390 := n2_; clear n0_ n1_ n2_; clear ho hb hg hat))
   go_roundg k1
   case measure => have := HK1.out; omega
   case rel => exact ⟨(y388), (wrap64 (x15_1 + 1)), sm_, H', ⟨by have := HK1.out; omega⟩, ⟨rR_ HO390.out⟩, ⟨bk_ BK382.out⟩, ⟨hB_⟩⟩

/-! ### impl_IsComplete: function 25 -/
def impl_IsComplete.f (k : Nat) (a0_0 : Int) (l0_1 : List (List Int)) (l1 : List Int) : Option (Bool) := (impl_IsFree.f k a0_0 l0_1 l1).bind fun t392 => (if t392 = true then ((impl_DefendedBy.f k a0_0 l0_1 l1).bind fun t393 => ((slices_Equal_int_int.f k t393 l1).bind fun t396 => (some t396))) else (some false))
theorem impl_IsComplete.mono : ∀ a0 a1 a2 k, LeO (impl_IsComplete.f k a0 a1 a2) (impl_IsComplete.f (k + 1) a0 a1 a2) := by
 intro a0 a1 a2 k
 unfold impl_IsComplete.f
 repeat' with_reducible first | apply impl_DefendedBy.mono | apply impl_IsFree.mono | apply slices_Equal_int_int.mono | apply Zy | apply Zg | refine Zl ?_ ?_ | refine Zh ?_ (fun _ => ?_)
theorem impl_IsComplete.calls (k : Nat) (a0_0 : Int) (A0_1 : Option Addr) (c0_1 : Nat) (l0_1 : List (List Int)) (A1 : Option Addr) (c1 : Nat) (l1 : List Int) (r : Bool) (w : World) (hr0_1 : Kd.C (Kd.slice 3 (Kd.int .i64)) w A0_1 l0_1.length l0_1) (hc0_1 : l0_1.length ≤ c0_1) (hr1 : Kd.C (Kd.int .i64) w A1 l1.length l1) (hc1 : l1.length ≤ c1) (h : impl_IsComplete.f k a0_0 l0_1 l1 = some r) :
  Calls Try.prog 25 #[.agg #[.int .i64 a0_0, .slice A0_1 l0_1.length c0_1], .slice A1 l1.length c1] w fun e w' => e = .returned (.bool r) ∧ Below w.heap.size w w' := by
 have hu27 := Try.underlying27
 have HR0_1 := Aside0.mk hr0_1
 have HC0_1 := Aside0.mk hc0_1
 clear hr0_1 hc0_1
 have HR1 := Aside0.mk hr1
 have HC1 := Aside0.mk hc1
 clear hr1 hc1
 have HB := Aside0.mk (Below.refl w.heap.size w)
 have H := h
 unfold impl_IsComplete.f at H
 clear h
 obtain ⟨t392, A3, H⟩ := bd_ H
 try dsimp only at H
 by_cases c4 : t392 = true
 rotate_left
 ·replace c4 := Bool.eq_false_iff.mpr c4
  subst c4
  rw [if_neg (show ¬ (false = true) by decide)] at H
  try dsimp only at H
  obtain rfl := Option.some.inj H
  go_enter Try.func25, Try.ntmps25
  go_wp2_with (first | ((with_reducible refine Zz (N := 2) rfl ?_); refine ZI ?hg (N := 2) ?hd (cs := #[.int .i64 a0_0, .slice A0_1 l0_1.length c0_1]) (t := 27) ?hr ?_; (case hd => rfl); (case hg => rfl); (case hr => first | (go_simp; done) | (go_simp; rfl)); intro gb391 hg w13 hbox hb; have BK391 := Aside0.mk (hbox); have GW391 := Aside0.mk ((hz_ hg : w.heap.size ≤ gb391)); have GE391 := Aside0.mk ((hz_ hg : w.heap.size ≤ gb391)); replace HB := Aside0.mk (Zc hB_ hb); clear hb hbox hg; obtain ⟨hcz14_0, hcz14_1, hfz14_0, hfz14_1⟩ := c2_ BK391.out) | ((with_reducible refine Zf (f := 75) rfl ?_); refine ZC (some 7) rfl rfl Try.func75 (by kernel_rfl) rfl #[.agg #[.int .i64 a0_0, .slice A0_1 l0_1.length c0_1], .slice A1 l1.length c1] rfl ar_ ?_; (with_reducible refine (impl_IsFree.calls k a0_0 _ _ l0_1 _ _ l1 false _ ?side1 ?side2 ?side3 ?side4 A3.out).mono ?_); (case side1 => exact cb_ HR0_1.out); (case side2 => exact HC0_1.out); (case side3 => exact cb_ HR1.out); (case side4 => exact HC1.out); rintro e w15 ⟨rfl, hb⟩; refine ⟨_, rfl, ?_⟩; replace BK391 := Aside0.mk (Zd (bq_ BK391.out) hb); replace HB := Aside0.mk (Zc hB_ hb); (try clear hb)))
  go_ret
  exact ⟨er_, hB_⟩
 subst c4
 rw [if_pos rfl] at H
 try dsimp only at H
 obtain ⟨t393, A5, H⟩ := bd_ H
 try dsimp only at H
 obtain ⟨t396, A6, H⟩ := bd_ H
 try dsimp only at H
 obtain rfl := Option.some.inj H
 go_enter Try.func25, Try.ntmps25
 go_wp2_with (first | ((with_reducible refine Zz (N := 2) rfl ?_); refine ZI ?hg (N := 2) ?hd (cs := #[.int .i64 a0_0, .slice A0_1 l0_1.length c0_1]) (t := 27) ?hr ?_; (case hd => rfl); (case hg => rfl); (case hr => first | (go_simp; done) | (go_simp; rfl)); intro gb391 hg w7 hbox hb; have BK391 := Aside0.mk (hbox); have GW391 := Aside0.mk ((hz_ hg : w.heap.size ≤ gb391)); have GE391 := Aside0.mk ((hz_ hg : w.heap.size ≤ gb391)); replace HB := Aside0.mk (Zc hB_ hb); clear hb hbox hg; obtain ⟨hcz8_0, hcz8_1, hfz8_0, hfz8_1⟩ := c2_ BK391.out) | ((with_reducible refine Zf (f := 75) rfl ?_); refine ZC (some 7) rfl rfl Try.func75 (by kernel_rfl) rfl #[.agg #[.int .i64 a0_0, .slice A0_1 l0_1.length c0_1], .slice A1 l1.length c1] rfl ar_ ?_; (with_reducible refine (impl_IsFree.calls k a0_0 _ _ l0_1 _ _ l1 true _ ?side1 ?side2 ?side3 ?side4 A3.out).mono ?_); (case side1 => exact cb_ HR0_1.out); (case side2 => exact HC0_1.out); (case side3 => exact cb_ HR1.out); (case side4 => exact HC1.out); rintro e w9 ⟨rfl, hb⟩; refine ⟨_, rfl, ?_⟩; replace BK391 := Aside0.mk (Zd (bq_ BK391.out) hb); replace HB := Aside0.mk (Zc hB_ hb); (try clear hb); obtain ⟨hcz10_0, hcz10_1, hfz10_0, hfz10_1⟩ := c2_ BK391.out) | (go_at_call 77; (with_reducible refine (impl_DefendedBy.calls k a0_0 _ _ l0_1 _ _ l1 t393 _ ?side1 ?side2 ?side3 ?side4 A5.out).mono ?_); (case side1 => exact cb_ HR0_1.out); (case side2 => exact HC0_1.out); (case side3 => exact cb_ HR1.out); (case side4 => exact HC1.out); rintro e w11 ⟨v394, rfl, ho0, hb⟩; have HO395 := Aside0.mk (Kd.R_lower ho0 (Ze hB_)); replace BK391 := Aside0.mk (Zd (bq_ BK391.out) hb); replace HB := Aside0.mk (Zc hB_ hb); (try clear hb); (try clear ho0); obtain ⟨Ao12, co12, eo12⟩ := Kd.R_slice HO395.out; subst eo12) | (go_at_call 76; (with_reducible refine (slices_Equal_int_int.calls k _ _ t393 _ _ l1 t396 _ ?side1 ?side2 ?side3 ?side4 A6.out).mono ?_); (case side1 => exact sA_ (ZE HO395.out).2.2); (case side2 => exact (ZE HO395.out).2.1); (case side3 => exact cb_ HR1.out); (case side4 => exact HC1.out); rintro e w' ⟨rfl, ⟨nd, rfl⟩⟩))
 go_ret
 exact ⟨er_, hB_⟩

/-! ### slices_SortFunc_int_int: function 66 -/
/-- slices.SortFunc of rows by slices.Compare: the row holds the same rows, in order. -/
def cmpR (x y : List Int) : Int := if x < y then -1 else if y < x then 1 else 0
def sortR (l : List (List Int)) : List (List Int) := l.mergeSort fun x y => decide (¬ y < x)
theorem sortR_len (l : List (List Int)) : (sortR l).length = l.length := List.length_mergeSort ..
def slices_SortFunc_int_int.f (k : Nat) (l0 : List (List Int)) (a1 : Nat) : Option (List (List Int)) := if a1 = 67 ∧ l0.length < 4611686018427387904 ∧ ∀ x ∈ l0, ∀ y ∈ l0, slices_Compare_int_int.f k x y = some (cmpR x y) then some (sortR l0) else none
theorem slices_SortFunc_int_int.mono : ∀ a0 a1 k, LeO (slices_SortFunc_int_int.f k a0 a1) (slices_SortFunc_int_int.f (k + 1) a0 a1) := by
  intro a0 a1 k r h
  unfold slices_SortFunc_int_int.f at h ⊢
  by_cases c : a1 = 67 ∧ a0.length < 4611686018427387904 ∧ ∀ x ∈ a0, ∀ y ∈ a0, slices_Compare_int_int.f k x y = some (cmpR x y)
  rotate_left
  ·rw [if_neg c] at h
   cases h
  rw [if_pos c] at h
  rw [if_pos ⟨c.1, c.2.1, fun x hx y hy => slices_Compare_int_int.mono _ _ _ _ (c.2.2 x hx y hy)⟩]
  exact h
section
variable {α : Type} [Inhabited α] {enc : α → Value}
theorem heap_sortedE {w : World} {g n : Nat} {os : Array Obj} {cur : Array Value} {e : TypeId} {fr : Nat × Nat} (d : Array α) (hb : w.heap[g]? = some (.cells cur e fr)) : (sortWorld enc w g 0 n d os).heap[g]? = some (.cells (Go.Sort.putCells enc 0 d cur) e fr) := by
  have hg : g < w.heap.size := (Array.getElem?_eq_some_iff.1 hb).1
  unfold sortWorld
  rw [Go.Sort.heap_grow_old _ _ (by simpa using hg)]
  simp [Go.Sort.putRow, Go.Sort.mapBlock, Go.Sort.ahead, Array.getElem?_modify, hb, Go.Sort.onCells]
theorem grownBy_sortedE {w : World} {g n : Nat} {os : Array Obj} (d : Array α) : w.grownBy (sortWorld enc w g 0 n d os) (some g) := by
  refine ⟨rfl, rfl, rfl, by simp [sortWorld], fun k hk hne => ?_⟩
  unfold sortWorld
  rw [Go.Sort.heap_grow_old _ _ (by simpa using hk)]
  have : g ≠ k := fun e => hne (by rw [e])
  simp [Go.Sort.putRow, Go.Sort.mapBlock, Go.Sort.ahead, Array.getElem?_modify, this]
theorem take_putCellsE (cur : Array Value) (ts : Array α) (h : ts.size ≤ cur.size) : (Go.Sort.putCells enc 0 ts cur).toList.take ts.size = ts.toList.map enc := by
  apply List.ext_getElem?
  intro j
  by_cases hj : j < ts.size
  ·rw [List.getElem?_take_of_lt hj, Array.getElem?_toList]
   simp [Go.Sort.putCells, hj, show j < cur.size by omega]
  rw [List.getElem?_take_eq_none (by omega), List.getElem?_eq_none (by simp; omega)]
end
theorem cmpR_lt (x y : List Int) : cmpR x y < 0 ↔ x < y := by
  unfold cmpR
  by_cases h : x < y
  ·rw [if_pos h]; exact ⟨fun _ => h, fun _ => by decide⟩
  rw [if_neg h]
  refine ⟨fun h2 => ?_, fun h2 => absurd h2 h⟩
  split at h2 <;> omega
theorem drop_take_one {β : Type} (l : List β) (j : Nat) (v : β) (h : l[j]? = some v) : (l.drop (j * 1)).take 1 = [v] := by
  obtain ⟨hj, e⟩ := List.getElem?_eq_some_iff.1 h
  rw [Nat.mul_one, List.drop_eq_getElem_cons hj, e, List.take_succ_cons, List.take_zero]
/-- Sorting the places of a row's elements sorts the row. -/
theorem sort_places {n : Nat} (l : List (List Int)) (hn : n = l.length) (h0 : 0 < n) (d' : List (Fin n)) (hp : d'.Perm (List.finRange n)) (hs : d'.Pairwise fun i j => ¬ l.getD j.val [] < l.getD i.val []) : d'.map (fun i => l.getD i.val []) = sortR l := by
  subst hn
  have hl : (List.finRange l.length).map (fun i => l.getD i.val []) = l := by
    apply List.ext_getElem (by simp)
    intro i h1 h2
    simp
  have h1 : (d'.map (fun i => l.getD i.val [])).Perm (sortR l) := by
    refine (hp.map _).trans ?_
    rw [hl]
    exact (List.mergeSort_perm l _).symm
  refine List.Perm.eq_of_pairwise (le := fun x y => ¬ y < x) ?_ ?_ ?_ h1
  ·intro a b _ _ hab hba
   exact List.le_antisymm hab hba
  ·rw [List.pairwise_map]
   exact hs
  have := List.pairwise_mergeSort (le := fun x y : List Int => decide (¬ y < x)) (fun a b c h1 h2 => by
    rw [decide_eq_true_eq] at h1 h2 ⊢
    exact List.le_trans h1 h2) (fun a b => by
    rw [Bool.or_eq_true, decide_eq_true_eq, decide_eq_true_eq]
    exact List.le_total a b) l
  refine List.Pairwise.imp ?_ this
  intro a b h
  exact of_decide_eq_true h
theorem slices_SortFunc_int_int.calls (k : Nat) (P0_ : Nat → Prop) (u9000_ : Value) (l0 : List (List Int)) (a1 : Nat) (r1 : List (List Int)) (w0 w : World) (hB : Below w0.heap.size w0 w) (ho0 : Kd.S (Kd.slice 3 (Kd.int .i64)) 31 w w0.heap.size P0_ u9000_ l0) (h : slices_SortFunc_int_int.f k l0 a1 = some r1) :
    Calls Try.prog 66 #[u9000_, .func (.func a1) #[] #[]] w fun e w' => e = .returned (.tuple #[]) ∧ Kd.S (Kd.slice 3 (Kd.int .i64)) 31 w' w0.heap.size P0_ u9000_ r1 ∧ Below w0.heap.size w0 w' ∧ Kept w w' (fun k_ => some k_ = (u9000_ : Value).ownBlock) := by
  unfold slices_SortFunc_int_int.f at h
  by_cases c : a1 = 67 ∧ l0.length < 4611686018427387904 ∧ ∀ x ∈ l0, ∀ y ∈ l0, slices_Compare_int_int.f k x y = some (cmpR x y)
  rotate_left
  ·rw [if_neg c] at h
   cases h
  rw [if_pos c] at h
  obtain rfl := Option.some.inj h
  clear h
  obtain ⟨rfl, hlen, hcmp⟩ := c
  have hS := ho0
  obtain ⟨f, h0, inner, ho, hr⟩ := ho0
  rw [List.length_zipIdx] at ho
  by_cases hpos : 0 < l0.length
  rotate_left
  ·obtain rfl := List.eq_nil_of_length_eq_zero (show l0.length = 0 by omega)
   obtain ⟨A, c, hv⟩ := own_slice ho
   subst hv
   refine (YtdlobolnajcfnaaSh.sortf_none A c _ w).mono ?_
   rintro e w' ⟨rfl, rfl⟩
   exact ⟨rfl, by rw [show sortR [] = [] by simp [sortR]]; exact hS, hB, Kept.refl _ _⟩
  obtain ⟨hil, hv⟩ := ho
  rcases hv with ⟨_, hz⟩ | ⟨g, cap, cur, rfl, hbg, hh, hnc, hcm, hcs, ht⟩
  ·omega
  have hgl : g < w.heap.size := (Array.getElem?_eq_some_iff.1 hh).1
  rw [show (Kd.tag f (Kd.slice 3 (Kd.int .i64))).sz = 1 from rfl] at hil hcs ht hr
  rw [Nat.mul_one] at hil hcs ht
  have hil2 : inner.length = l0.length := hil
  clear hS hil
  generalize hN : l0.length = n at hpos hlen hil2 hnc ht h0 hr ⊢
  have : Inhabited (Fin n) := ⟨⟨0, hpos⟩⟩
  have hin : ∀ i : Fin n, inner[i.val]? = some (inner.getD i.val (.int .i64 0)) := fun i => by
    rw [List.getD_eq_getElem?_getD, List.getElem?_eq_getElem (by omega)]
    rfl
  have hli : ∀ i : Fin n, l0[i.val]? = some (l0.getD i.val []) := fun i => by
    rw [List.getD_eq_getElem?_getD, List.getElem?_eq_getElem (by omega)]
    rfl
  have hM : ∀ i : Fin n, (Kd.slice 3 (Kd.int .i64)).M w w0.heap.size (fun k_ => (P0_ k_ ∧ some k_ ≠ (Value.slice (some ⟨g, 0, none⟩) n cap).ownBlock) ∧ f k_ = i.val) (l0.getD i.val []) [inner.getD i.val (.int .i64 0)] := fun i => by
    have h1 := hr.2 i.val _ (Kd.zip_at (hli i))
    rw [drop_take_one inner i.val _ (hin i)] at h1
    exact h1
  let enc : Fin n → Value := fun i => inner.getD i.val (.int .i64 0)
  have hone : OneCell enc := fun i => by
    obtain ⟨v, hv, hR⟩ := hM i
    have hv2 : inner.getD i.val (.int .i64 0) = v := by injection hv
    show (inner.getD i.val (.int .i64 0)).oneCell' = true
    rw [hv2]
    exact (Kd.R_val hR).2
  have hgne : ∀ k_, (P0_ k_ ∧ some k_ ≠ (Value.slice (some ⟨g, 0, none⟩) n cap).ownBlock) → some k_ ≠ some g := fun k_ hk => hk.2
  have hmv : ∀ (i : Fin n) (W : World), w.grownBy W (some g) → (Kd.slice 3 (Kd.int .i64)).M W w0.heap.size (fun k_ => (P0_ k_ ∧ some k_ ≠ (Value.slice (some ⟨g, 0, none⟩) n cap).ownBlock) ∧ f k_ = i.val) (l0.getD i.val []) [enc i] := fun i W hW => Kd.M_grown (hM i) hW (fun k_ hk => hgne k_ hk.1)
  have hO : Go.Sort.SWO (ltOf fun i j : Fin n => cmpR (l0.getD i.val []) (l0.getD j.val [])) := by
    refine ⟨fun x => ?_, fun x y z hxy hyz => ?_, fun x y z hxy hyz => ?_⟩
    ·unfold ltOf
     rw [decide_eq_false_iff_not, cmpR_lt]
     exact List.lt_irrefl _
    ·unfold ltOf at hxy hyz ⊢
     rw [decide_eq_true_eq, cmpR_lt] at hxy hyz ⊢
     exact List.lt_trans hxy hyz
    unfold ltOf at hxy hyz ⊢
    rw [decide_eq_false_iff_not, cmpR_lt] at hxy hyz ⊢
    exact List.le_trans hyz hxy
  have hC : CmpLays1 Try.prog 67 #[] enc (fun i j : Fin n => cmpR (l0.getD i.val []) (l0.getD j.val [])) g 0 (List.finRange n).toArray.size w := by
    refine CmpReads.lays ?_
    intro m os dk _ x y
    have hW := grownBy_sortedE (enc := enc) (w := w) (g := g) (n := m) (os := os) dk
    obtain ⟨A1, c1, e1, hl1, hr1⟩ := (Kd.slice 3 (Kd.int .i64)).K_of_M (hmv x _ hW)
    obtain ⟨A2, c2, e2, hl2, hr2⟩ := (Kd.slice 3 (Kd.int .i64)).K_of_M (hmv y _ hW)
    have e1 : enc x = .slice A1 (l0.getD x.val []).length c1 := by injection e1
    have e2 : enc y = .slice A2 (l0.getD y.val []).length c2 := by injection e2
    rw [e1, e2]
    refine (slices_Compare_int_int.calls k A1 c1 _ A2 c2 _ _ _ hr1 hl1 hr2 hl2 (hcmp _ (List.mem_of_getElem? (hli x)) _ (List.mem_of_getElem? (hli y)))).mono ?_
    rintro e w' ⟨rfl, q, hq⟩
    exact ⟨rfl, q, hq⟩
  have hH : Go.Sort.Holds enc w g 0 (List.finRange n).toArray := by
    intro j hj
    have hj' : j < n := by simpa using hj
    have hd : (List.finRange n).toArray[j]! = ⟨j, hj'⟩ := by
      rw [getElem!_pos _ j hj]
      simp
    refine ⟨?_, by simp [World.frozen?, hh]⟩
    rw [hd]
    have h1 : (cur.toList.take n)[j]? = some (enc ⟨j, hj'⟩) := by rw [ht]; exact hin ⟨j, hj'⟩
    rw [List.getElem?_take_of_lt hj'] at h1
    simp only [World.cell?, hh, Nat.zero_add]
    simp only [Option.isSome_none, Bool.false_eq_true, if_false]
    rw [← Array.getElem?_toList, h1]
  have hsz : (List.finRange n).toArray.size = n := by simp
  have hcall := YtdlobolnajcfnaaSh.sortf_calls enc hone (fun i j : Fin n => cmpR (l0.getD i.val []) (l0.getD j.val [])) hO 67 g 0 cap (List.finRange n).toArray w (enters_of Try.func67 (by kernel_rfl) rfl) hC hH hgl (by rw [hsz]; exact hlen)
  rw [hsz] at hcall
  refine hcall.mono ?_
  rintro e w' ⟨rfl, d', m, os, hp, hs, rfl⟩
  obtain ⟨hp1, _, hp3⟩ := hp
  rw [hsz] at hp1
  have hp4 : d'.toList.Perm (List.finRange n) := by
    have e1 : d'.extract 0 n = d' := by
      have := Array.extract_size (xs := d')
      rwa [hp1] at this
    have e2 : (List.finRange n).toArray.extract 0 n = (List.finRange n).toArray := by
      have := Array.extract_size (xs := (List.finRange n).toArray)
      rwa [hsz] at this
    rwa [e1, e2] at hp3
  have hnd : d'.toList.Nodup := hp4.nodup_iff.2 (List.nodup_finRange n)
  have hpw : d'.toList.Pairwise fun i j => ¬ l0.getD j.val [] < l0.getD i.val [] := by
    rw [List.pairwise_iff_getElem]
    intro i j hi hj hij
    have hi2 : i < d'.size := by simpa using hi
    have hj2 : j < d'.size := by simpa using hj
    have h2 := hs i j (Nat.zero_le _) hij (by omega)
    unfold ltOf at h2
    rw [decide_eq_false_iff_not, cmpR_lt, getElem!_pos _ i hi2, getElem!_pos _ j hj2] at h2
    simpa using h2
  have hsort := sort_places l0 hN.symm hpos d'.toList hp4 hpw
  have hg := grownBy_sortedE (enc := enc) (w := w) (g := g) (n := m) (os := os) d'
  refine ⟨rfl, ?_, hB.grown hg hB.size (by intro k hk; injection hk with hk; omega), Kept.of_grown hg (Kept.refl w _) (by intro k hk; injection hk with hk; subst hk; exact .inl rfl)⟩
  have hdl : d'.toList.length = n := by simpa using hp1
  have hrl : (sortR l0).length = n := by rw [sortR_len, hN]
  refine ⟨fun k_ => if hk : f k_ < n then d'.toList.idxOf ⟨f k_, hk⟩ else n, h0, d'.toList.map enc, ⟨by rw [List.length_zipIdx, hrl, List.length_map, hdl]; exact (Nat.mul_one n).symm, .inr ⟨g, cap, _, by rw [List.length_zipIdx, hrl], hbg, heap_sortedE d' hh, by rw [List.length_zipIdx, hrl]; exact hnc, hcm, by rw [show (Kd.tag _ (Kd.slice 3 (Kd.int .i64))).sz = 1 from rfl, Nat.mul_one]; simp [Go.Sort.putCells, hcs], ?_⟩⟩, ?_, ?_⟩
  ·rw [show (Kd.tag _ (Kd.slice 3 (Kd.int .i64))).sz = 1 from rfl, Nat.mul_one, List.length_zipIdx, hrl]
   have := take_putCellsE (enc := enc) cur d' (by omega)
   rwa [hp1] at this
  ·rw [List.length_map, List.length_zipIdx, hrl, hdl]
   exact (Nat.mul_one n).symm
  intro j p hj
  obtain ⟨hjl, _⟩ := List.getElem?_eq_some_iff.1 hj
  rw [List.length_zipIdx, hrl] at hjl
  have hdj : d'.toList[j]? = some (d'.toList[j]'(by omega)) := List.getElem?_eq_getElem (by omega)
  generalize hi : d'.toList[j]'(by omega) = i at hdj
  rw [show (Kd.tag _ (Kd.slice 3 (Kd.int .i64))).sz = 1 from rfl, drop_take_one _ j (enc i) (by rw [List.getElem?_map, hdj]; rfl)]
  have hrj : (sortR l0)[j]? = some (l0.getD i.val []) := by rw [← hsort, List.getElem?_map, hdj]; rfl
  rw [Kd.zip_at hrj] at hj
  obtain rfl := Option.some.inj hj
  have h2 := hmv i _ hg
  refine (Kd.slice 3 (Kd.int .i64)).M_mono ?_ h2
  intro k_ hk
  refine ⟨hk.1, ?_⟩
  have hfk : f k_ < n := by rw [hk.2]; exact i.isLt
  dsimp only
  rw [dif_pos hfk, show (⟨f k_, hfk⟩ : Fin n) = i from Fin.ext hk.2, ← hi]
  exact hnd.idxOf_getElem j (by omega)

/-! ### impl_AllComplete: function 20 -/
mutual
def impl_AllComplete.l0 : Nat → List (List Int) → Int → Int → Int → List (List Int) → Option ((List (List Int)))
 | 0, _, _, _, _, _ => none
 | k + 1, x3, x14, x15, x398000, x398001 => if x15 < x14 then (impl_AllComplete.l1 k x3 x15 (([] : List Int)) x14 x15 x398000 0 x398000 x398001) else ((slices_SortFunc_int_int.f k x3 67).bind fun t402 => (some t402))
def impl_AllComplete.l1 : Nat → List (List Int) → Int → List Int → Int → Int → Int → Int → Int → List (List Int) → Option ((List (List Int)))
 | 0, _, _, _, _, _, _, _, _, _ => none
 | k + 1, x3, x4, x5, x14, x15, x20, x21, x398000, x398001 => if x21 < x20 then (if 0 ≤ x21 then (if (Go.bits .and .i64 (shr .i64 x4 x21) 1) = 1 then (if x5.length < 17592186044416 then (impl_AllComplete.l1 k x3 x4 (x5 ++ [x21]) x14 x15 x20 (wrap64 (x21 + 1)) x398000 x398001) else (none)) else (impl_AllComplete.l1 k x3 x4 x5 x14 x15 x20 (wrap64 (x21 + 1)) x398000 x398001)) else (none)) else ((impl_IsComplete.f k x398000 x398001 x5).bind fun t409 => (if t409 = true then (if x3.length < 5864062014805 then (impl_AllComplete.l0 k (x3 ++ [x5]) x14 (wrap64 (x15 + 1)) x398000 x398001) else (none)) else (impl_AllComplete.l0 k x3 x14 (wrap64 (x15 + 1)) x398000 x398001)))
end
def impl_AllComplete.f (k : Nat) (a0_0 : Int) (l0_1 : List (List Int)) : Option ((List (List Int))) := (some (([] : List (List Int)) : List (List Int))).bind fun y398 => ((impl_IsGraph.f k a0_0 l0_1).bind fun t401 => (if t401 = true then (if 0 ≤ a0_0 then (impl_AllComplete.l0 k y398 (shl .i64 1 a0_0) 0 a0_0 l0_1) else (none)) else (some y398)))
theorem impl_AllComplete.mono_l : ∀ k, (∀ y0 y1 y2 y3 y4, LeO (impl_AllComplete.l0 k y0 y1 y2 y3 y4) (impl_AllComplete.l0 (k + 1) y0 y1 y2 y3 y4)) ∧ (∀ y0 y1 y2 y3 y4 y5 y6 y7 y8, LeO (impl_AllComplete.l1 k y0 y1 y2 y3 y4 y5 y6 y7 y8) (impl_AllComplete.l1 (k + 1) y0 y1 y2 y3 y4 y5 y6 y7 y8))
 | 0 => ⟨fun _ _ _ _ _ r h => by simp [impl_AllComplete.l0] at h, fun _ _ _ _ _ _ _ _ _ r h => by simp [impl_AllComplete.l1] at h⟩
 | k + 1 => by
  obtain ⟨ih0, ih1⟩ := impl_AllComplete.mono_l k
  refine ⟨?_, ?_⟩
  ·intro y0 y1 y2 y3 y4
   unfold impl_AllComplete.l0
   repeat' with_reducible first | apply ih0 | apply ih1 | apply impl_IsComplete.mono | apply impl_IsGraph.mono | apply slices_SortFunc_int_int.mono | apply Zy | apply Zg | refine Zl ?_ ?_ | refine Zh ?_ (fun _ => ?_)
  ·intro y0 y1 y2 y3 y4 y5 y6 y7 y8
   unfold impl_AllComplete.l1
   repeat' with_reducible first | apply ih0 | apply ih1 | apply impl_IsComplete.mono | apply impl_IsGraph.mono | apply slices_SortFunc_int_int.mono | apply Zy | apply Zg | refine Zl ?_ ?_ | refine Zh ?_ (fun _ => ?_)
theorem impl_AllComplete.mono : ∀ a0 a1 k, LeO (impl_AllComplete.f k a0 a1) (impl_AllComplete.f (k + 1) a0 a1) := by
 intro a0 a1 k
 obtain ⟨ih0, ih1⟩ := impl_AllComplete.mono_l k
 unfold impl_AllComplete.f
 repeat' with_reducible first | apply ih0 | apply ih1 | apply impl_IsComplete.mono | apply impl_IsGraph.mono | apply slices_SortFunc_int_int.mono | apply Zy | apply Zg | refine Zl ?_ ?_ | refine Zh ?_ (fun _ => ?_)
theorem impl_AllComplete.calls (k : Nat) (a0_0 : Int) (A0_1 : Option Addr) (c0_1 : Nat) (l0_1 : List (List Int)) (r : List (List Int)) (w : World) (hr0_1 : Kd.C (Kd.slice 3 (Kd.int .i64)) w A0_1 l0_1.length l0_1) (hc0_1 : l0_1.length ≤ c0_1) (h : impl_AllComplete.f k a0_0 l0_1 = some r) :
  Calls Try.prog 20 #[.agg #[.int .i64 a0_0, .slice A0_1 l0_1.length c0_1]] w fun e w' => ∃ v0_ : Value, e = .returned (v0_) ∧ Kd.S (Kd.slice 3 (Kd.int .i64)) 31 w' w.heap.size (fun _ => True) v0_ r ∧ Below w.heap.size w w' := by
 have hu27 := Try.underlying27
 have HR0_1 := Aside0.mk hr0_1
 have HC0_1 := Aside0.mk hc0_1
 clear hr0_1 hc0_1
 have HB := Aside0.mk (Below.refl w.heap.size w)
 have H := h
 unfold impl_AllComplete.f at H
 clear h
 obtain ⟨y398, hy398⟩ : ∃ y_ : List (List Int), y_ = (([] : List (List Int))) := ⟨_, rfl⟩
 replace H : ((impl_IsGraph.f k a0_0 l0_1).bind fun t401 => (if t401 = true then (if 0 ≤ a0_0 then (impl_AllComplete.l0 k y398 (shl .i64 1 a0_0) 0 a0_0 l0_1) else (none)) else (some y398))) = some r := hy_ hy398 H
 have Ny398 := Aside0.mk hy398
 clear hy398
 obtain ⟨t401, A2, H⟩ := bd_ H
 try dsimp only at H
 by_cases c3 : t401 = true
 rotate_left
 ·replace c3 := Bool.eq_false_iff.mpr c3
  subst c3
  rw [if_neg (show ¬ (false = true) by decide)] at H
  try dsimp only at H
  obtain rfl := Option.some.inj H
  go_enter Try.func20, Try.ntmps20
  go_wp2_with (first | ((with_reducible refine Zz (N := 1) rfl ?_); refine ZI ?hg (N := 1) ?hd (cs := #[.int .i64 a0_0, .slice A0_1 l0_1.length c0_1]) (t := 27) ?hr ?_; (case hd => rfl); (case hg => rfl); (case hr => first | (go_simp; done) | (go_simp; rfl)); intro gb397 hg w35 hbox hb; have BK397 := Aside0.mk (hbox); have GW397 := Aside0.mk ((hz_ hg : w.heap.size ≤ gb397)); have GE397 := Aside0.mk ((hz_ hg : w.heap.size ≤ gb397)); replace HB := Aside0.mk (Zc hB_ hb); clear hb hbox hg) | ((with_reducible refine Zz (N := 7) rfl ?_); refine Kd.S_lit (Kd.slice 3 (Kd.int .i64)) _ 31 ?hg (N := 7) ?hd (xs := ([] : List (List Int))) (inner := []) (ok := fun _ => True) (okp := fun _ => True) ?hr ?hp (fun _ hk => hk) trivial (Below.refl _ _) (Nat.le_refl _) (by simp) ?_; (case hd => rfl); (case hg => rfl); (case hr => first | (go_simp; done) | (go_simp; rfl)); (case hp => exact (Reps.none _ _)); intro v399 w36 ho37 hb hg_ hnew_; clear hg_ hnew_; (first | rw [← Ny398.out] at ho37 | (simp only [Int.reduceToNat] at ho37; rw [← Ny398.out] at ho37)); have HO400 := Aside0.mk (Kd.S_lower ho37 (Ze hB_)); replace BK397 := Aside0.mk (Zd (bq_ BK397.out) hb); replace HB := Aside0.mk (Zc hB_ hb); clear hb ho37; obtain ⟨hcz38_0, hcz38_1, hfz38_0, hfz38_1⟩ := c2_ BK397.out) | ((with_reducible refine Zf (f := 24) rfl ?_); refine ZC (some 9) rfl rfl Try.func24 (by kernel_rfl) rfl #[.agg #[.int .i64 a0_0, .slice A0_1 l0_1.length c0_1]] rfl ar_ ?_; (with_reducible refine (impl_IsGraph.calls k a0_0 _ _ l0_1 false _ ?side1 ?side2 A2.out).mono ?_); (case side1 => exact cb_ HR0_1.out); (case side2 => exact HC0_1.out); rintro e w39 ⟨rfl, hb⟩; refine ⟨_, rfl, ?_⟩; replace HO400 := Aside0.mk (Kd.S_below (rS_ HO400.out) hb); replace BK397 := Aside0.mk (Zd (bq_ BK397.out) hb); replace HB := Aside0.mk (Zc hB_ hb); (try clear hb); (try clear hk)))
  go_ret
  exact ⟨_, er_, rS_ HO400.out, hB_⟩
 subst c3
 rw [if_pos rfl] at H
 try dsimp only at H
 by_cases c4 : 0 ≤ a0_0
 rotate_left
 ·rw [if_neg c4] at H
  exact absurd H (by simp)
 rw [if_pos c4] at H
 have c4b0 := eq_true c4
 have c4b1 : decide (0 ≤ a0_0) = true := decide_eq_true c4
 clear c4
 obtain ⟨ji5, hji5⟩ : ∃ j_ : Int, (shl .i64 1 a0_0) = j_ := ⟨_, rfl⟩
 replace H : (impl_AllComplete.l0 k y398 ji5 0 a0_0 l0_1) = some r := by first | (rw [hji5] at H; exact H) | (simp only [hji5] at H ⊢; exact H)
 (try rw [hji5] at A2)
 have hji5_ : (IntKind.i64.wrap (1 * 2 ^ min a0_0.toNat 64)) = ji5 := hji5
 have hji5z : a0_0 ≤ 64 → (IntKind.i64.wrap (1 * 2 ^ a0_0.toNat)) = ji5 := shl_small hji5
 have hji5u : (IntKind.i64.wrap (2 ^ min a0_0.toNat 64)) = ji5 := by have h_ := hji5_; rw [Int.one_mul] at h_; exact h_
 have hji5v : a0_0 ≤ 64 → (IntKind.i64.wrap (2 ^ a0_0.toNat)) = ji5 := fun hle_ => by have h_ := hji5z hle_; rw [Int.one_mul] at h_; exact h_
 have hji5y : (wrap64 (1 * 2 ^ min a0_0.toNat 64)) = ji5 := (i64_w _).symm.trans hji5_
 have hji5x : a0_0 ≤ 64 → (wrap64 (1 * 2 ^ a0_0.toNat)) = ji5 := fun h_ => (i64_w _).symm.trans (hji5z h_)
 have H' := Aside0.mk H
 clear H
 go_enter Try.func20, Try.ntmps20
 go_wp2_with (first | ((with_reducible refine Zz (N := 1) rfl ?_); refine ZI ?hg (N := 1) ?hd (cs := #[.int .i64 a0_0, .slice A0_1 l0_1.length c0_1]) (t := 27) ?hr ?_; (case hd => rfl); (case hg => rfl); (case hr => first | (go_simp; done) | (go_simp; rfl)); intro gb397 hg w6 hbox hb; have BK397 := Aside0.mk (hbox); have GW397 := Aside0.mk ((hz_ hg : w.heap.size ≤ gb397)); have GE397 := Aside0.mk ((hz_ hg : w.heap.size ≤ gb397)); replace HB := Aside0.mk (Zc hB_ hb); clear hb hbox hg) | ((with_reducible refine Zz (N := 7) rfl ?_); refine Kd.S_lit (Kd.slice 3 (Kd.int .i64)) _ 31 ?hg (N := 7) ?hd (xs := ([] : List (List Int))) (inner := []) (ok := fun _ => True) (okp := fun _ => True) ?hr ?hp (fun _ hk => hk) trivial (Below.refl _ _) (Nat.le_refl _) (by simp) ?_; (case hd => rfl); (case hg => rfl); (case hr => first | (go_simp; done) | (go_simp; rfl)); (case hp => exact (Reps.none _ _)); intro v399 w7 ho8 hb hg_ hnew_; clear hg_ hnew_; (first | rw [← Ny398.out] at ho8 | (simp only [Int.reduceToNat] at ho8; rw [← Ny398.out] at ho8)); have HO400 := Aside0.mk (Kd.S_lower ho8 (Ze hB_)); replace BK397 := Aside0.mk (Zd (bq_ BK397.out) hb); replace HB := Aside0.mk (Zc hB_ hb); clear hb ho8; obtain ⟨hcz9_0, hcz9_1, hfz9_0, hfz9_1⟩ := c2_ BK397.out) | ((with_reducible refine Zf (f := 24) rfl ?_); refine ZC (some 9) rfl rfl Try.func24 (by kernel_rfl) rfl #[.agg #[.int .i64 a0_0, .slice A0_1 l0_1.length c0_1]] rfl ar_ ?_; (with_reducible refine (impl_IsGraph.calls k a0_0 _ _ l0_1 true _ ?side1 ?side2 A2.out).mono ?_); (case side1 => exact cb_ HR0_1.out); (case side2 => exact HC0_1.out); rintro e w10 ⟨rfl, hb⟩; refine ⟨_, rfl, ?_⟩; replace HO400 := Aside0.mk (Kd.S_below (rS_ HO400.out) hb); replace BK397 := Aside0.mk (Zd (bq_ BK397.out) hb); replace HB := Aside0.mk (Zc hB_ hb); (try clear hb); (try clear hk); obtain ⟨hcz11_0, hcz11_1, hfz11_0, hfz11_1⟩ := c2_ BK397.out))
 go_loopg [3, 15] k (fun kq v3 v15 w' => ∃ (x3_1 : List (List Int)) (x15_1 : Int), v15 = .int .i64 x15_1 ∧ Aside0 (impl_AllComplete.l0 kq x3_1 ji5 x15_1 a0_0 l0_1 = some r) ∧ Aside0 (kq ≤ k) ∧ Aside0 (Kd.S (Kd.slice 3 (Kd.int .i64)) 31 w' w.heap.size (fun _ => True) v3 x3_1) ∧ Aside0 (w'.heap[gb397]? = some (.cells #[.int .i64 a0_0, (.slice A0_1 l0_1.length c0_1)] 27 (0, 0))) ∧ Aside0 (Below w.heap.size w w'))
 case atStart => exact ⟨(y398), (0), sm_, H', ⟨Nat.le_refl _⟩, ⟨rS_ HO400.out⟩, ⟨bk_ BK397.out⟩, ⟨hB_⟩⟩
 case round =>
  clear H'
  try clear c2
  try clear p2
  try clear c3
  try clear c4
  try clear c4b0
  try clear c4b1
  try clear p6
  try clear hcz11_0
  try clear hcz11_1
  try clear hcz9_0
  try clear hcz9_1
  try clear hfz11_0
  try clear hfz11_1
  try clear hfz9_0
  try clear hfz9_1
  obtain ⟨x3_1, x15_1, rfl, HA, HK1, HO_3, BK397, HB⟩ := hrel
  cases gk with
  | zero => exact absurd HA.out (by simp [impl_AllComplete.l0])
  | succ k1 =>
   have H := HA.out
   clear HA
   simp only [impl_AllComplete.l0] at H
   by_cases c12 : x15_1 < ji5
   rotate_left
   ·rw [if_neg c12] at H
    have c12b0 : decide (x15_1 < ji5) = false := decide_eq_false c12
    clear c12
    obtain ⟨t402, A32, H⟩ := bd_ H
    try dsimp only at H
    obtain rfl := Option.some.inj H
    obtain ⟨Ao33, co33, eo33⟩ := Kd.S_slice HO_3.out
    subst eo33
    go_wp2_with (first | (go_at_call 66; (with_reducible refine (slices_SortFunc_int_int.calls k1 (fun k_ => True) (.slice Ao33 x3_1.length co33) x3_1 67 t402 w _ ?side1 ?side2 A32.out).mono ?_); (case side1 => repeat (first | (with_reducible first | exact HB.out | apply ZA | apply Zm | apply Zq | refine Zr ?_ GE397.out) | exact HB.out)); (case side2 => exact (ZT (ok' := fun k_ => True) (HO_3.out) (fun _ _ => trivial))); rintro e w34 ⟨rfl, hy0, hb, hkp⟩; replace BK397 := Aside0.mk (blk_kept (bk_ BK397.out) hkp (fun hs_ => (fun e_ => (Kd.R_ne (Kd.S_R HO_3.out) BK397.out (by decide)) e_) hs_)); replace HO_3 := Aside0.mk (hy0); replace HB := Aside0.mk (hb); (try clear hb); (try clear hkp); (try clear hy0)))
    go_ret
    exact ⟨_, by first | rfl | (simp [errW_none, errW_some] <;> rfl) | (simp only [← hji5]; first | rfl | (simp [errW_none, errW_some] <;> rfl)) | (simp [*, errW_none, errW_some] <;> rfl), rS_ HO_3.out, hB_⟩
   rw [if_pos c12] at H
   have c12b0 : decide (x15_1 < ji5) = true := decide_eq_true c12
   clear c12
   obtain ⟨y403, hy403⟩ : ∃ y_ : List Int, y_ = (([] : List Int)) := ⟨_, rfl⟩
   replace H : (impl_AllComplete.l1 k1 x3_1 x15_1 y403 ji5 x15_1 a0_0 0 a0_0 l0_1) = some r := hy_ hy403 H
   have Ny403 := Aside0.mk hy403
   clear hy403
   have H' := Aside0.mk H
   clear H
   go_wp2_with (first | ((with_reducible refine Zz (N := 18) rfl ?_); refine Kd.R_lit (Kd.int .i64) _ 3 ?hg (N := 18) ?hd (xs := ([] : List Int)) (inner := []) (ok := fun _ => True) (okp := fun _ => True) ?hr ?hp (fun _ hk => hk) trivial (Below.refl _ _) (Nat.le_refl _) (by simp) ?_; (case hd => rfl); (case hg => rfl); (case hr => first | (go_simp; done) | (go_simp; rfl)); (case hp => exact (Reps.none _ _)); intro v404 w13 ho14 hb hg_ hnew_; clear hg_ hnew_; (first | rw [← Ny403.out] at ho14 | (simp only [Int.reduceToNat] at ho14; rw [← Ny403.out] at ho14)); replace HO_3 := Aside0.mk (Kd.S_elder' (rS_ HO_3.out) (Kd.R_base ho14) hb); have HO405 := Aside0.mk (Kd.R_lower ho14 (Ze hB_)); replace BK397 := Aside0.mk (Zd (bq_ BK397.out) hb); replace HB := Aside0.mk (Zc hB_ hb); clear hb ho14; obtain ⟨hcz15_0, hcz15_1, hfz15_0, hfz15_1⟩ := c2_ BK397.out))
   go_loopg [5, 21] k1 (fun kq v5 v21 w' => ∃ (x5_2 : List Int) (x21_2 : Int), v21 = .int .i64 x21_2 ∧ Aside0 (impl_AllComplete.l1 kq x3_1 x15_1 x5_2 ji5 x15_1 a0_0 x21_2 a0_0 l0_1 = some r) ∧ Aside0 (kq ≤ k1) ∧ Aside0 (Kd.S (Kd.slice 3 (Kd.int .i64)) 31 w' w.heap.size (fun k_ => some k_ ≠ (v5 : Value).ownBlock) u3 x3_1) ∧ Aside0 (Kd.R (Kd.int .i64) 3 w' w.heap.size (fun _ => True) v5 x5_2) ∧ Aside0 (w'.heap[gb397]? = some (.cells #[.int .i64 a0_0, (.slice A0_1 l0_1.length c0_1)] 27 (0, 0))) ∧ Aside0 (Below w.heap.size w w'))
   case atStart => exact ⟨(y403), (0), sm_, H', ⟨Nat.le_refl _⟩, ⟨by (with_reducible repeat (first | apply Kd.S_alloc | apply Kd.S_drewN | apply Kd.S_drew)); exact ZT HO_3.out (fun _ hk => hk.2)⟩, ⟨rR_ HO405.out⟩, ⟨bk_ BK397.out⟩, ⟨hB_⟩⟩
   case round =>
    clear H'
    try clear c1
    try clear c2
    try clear p2
    try clear c3
    try clear c4
    try clear c4b0
    try clear c4b1
    try clear p6
    try clear c12
    try clear c12b0
    try clear hcz11_0
    try clear hcz11_1
    try clear hcz15_0
    try clear hcz15_1
    try clear hcz9_0
    try clear hcz9_1
    try clear hfz11_0
    try clear hfz11_1
    try clear hfz15_0
    try clear hfz15_1
    try clear hfz9_0
    try clear hfz9_1
    try clear p2
    try clear p6
    obtain ⟨x5_2, x21_2, rfl, HA, HK2, HO_3, HO_5, BK397, HB⟩ := hrel
    cases gk with
    | zero => exact absurd HA.out (by simp [impl_AllComplete.l1])
    | succ k2 =>
     have H := HA.out
     clear HA
     simp only [impl_AllComplete.l1] at H
     by_cases c16 : x21_2 < a0_0
     ·rw [if_pos c16] at H
      have c16b0 : decide (x21_2 < a0_0) = true := decide_eq_true c16
      clear c16
      by_cases c17 : 0 ≤ x21_2
      rotate_left
      ·rw [if_neg c17] at H
       exact absurd H (by simp)
      rw [if_pos c17] at H
      have c17b0 := eq_true c17
      have c17b1 : decide (0 ≤ x21_2) = true := decide_eq_true c17
      clear c17
      obtain ⟨ji18, hji18⟩ : ∃ j_ : Int, (shr .i64 x15_1 x21_2) = j_ := ⟨_, rfl⟩
      replace H : (if (Go.bits .and .i64 (ji18) 1) = 1 then (if x5_2.length < 17592186044416 then (impl_AllComplete.l1 k2 x3_1 x15_1 (x5_2 ++ [x21_2]) ji5 x15_1 a0_0 (wrap64 (x21_2 + 1)) a0_0 l0_1) else (none)) else (impl_AllComplete.l1 k2 x3_1 x15_1 x5_2 ji5 x15_1 a0_0 (wrap64 (x21_2 + 1)) a0_0 l0_1)) = some r := by first | (rw [hji18] at H; exact H) | (simp only [hji18] at H ⊢; exact H)
      have hji18_ : (x15_1 / 2 ^ min x21_2.toNat 64) = ji18 := hji18
      have hji18z : x21_2 ≤ 64 → (x15_1 / 2 ^ x21_2.toNat) = ji18 := shr_small hji18
      by_cases c19 : (Go.bits .and .i64 (ji18) 1) = 1
      rotate_left
      ·rw [if_neg c19] at H
       have c19b0 : ((Go.bits .and .i64 (ji18) 1) == 1) = false := beq_eq_false_iff_ne.mpr c19
       have c19b1 : ((Go.bits .and .i64 (ji18) 1) != 1) = true := bne_iff_ne.mpr c19
       have H' := Aside0.mk H
       clear H
       go_wp2
       go_roundg k2
       case measure => have := HK1.out; have := HK2.out; omega
       case rel => exact ⟨(x5_2), (wrap64 (x21_2 + 1)), sm_, H', ⟨by have := HK1.out; have := HK2.out; omega⟩, ⟨rS_ HO_3.out⟩, ⟨rR_ HO_5.out⟩, ⟨bk_ BK397.out⟩, ⟨hB_⟩⟩
      rw [if_pos c19] at H
      have c19b0 : ((Go.bits .and .i64 (ji18) 1) == 1) = true := beq_iff_eq.mpr c19
      have c19b1 : ((Go.bits .and .i64 (ji18) 1) != 1) = false := bne_eq_false_iff_eq.mpr c19
      clear c19
      by_cases c20 : x5_2.length < 17592186044416
      rotate_left
      ·rw [if_neg c20] at H
       exact absurd H (by simp)
      rw [if_pos c20] at H
      have LMc20 := Aside0.mk c20
      clear c20
      obtain ⟨y406, hy406⟩ : ∃ y_ : List Int, y_ = (x5_2 ++ [x21_2]) := ⟨_, rfl⟩
      replace H : (impl_AllComplete.l1 k2 x3_1 x15_1 y406 ji5 x15_1 a0_0 (wrap64 (x21_2 + 1)) a0_0 l0_1) = some r := hy_ hy406 H
      have Ny406 := Aside0.mk hy406
      clear hy406
      have H' := Aside0.mk H
      clear H
      go_wp2_with (first | ((with_reducible refine gate_builtin (b := .append) (xs := #[.tmp 29, .tmp 31]) rfl ?_); at_builtin; refine Kd.R_append (Kd.int .i64) (w0 := w) w.heap.size rfl (.tmp 29) (.tmp 31) 31 3 (.int .i64 0) 8 rfl Try.underlying31 info3 rfl (by decide) (by omega) u5 x5_2 x21_2 [.int .i64 x21_2] (fun _ => True) (fun _ => False) rfl rfl ?aP (fun _ hk => hk.elim) ?aF ?aO ?aB ?aS ?aL ?_; (case aP => exact rfl); (case aB => exact hB_); (case aF => exact (fun _ _ => trivial)); (case aO => exact (rR_ HO_5.out)); (case aS => exact (Ze hB_)); (case aL => have := LMc20.out; omega); intro v407 w21 ho hb hg hat; rw [← Ny406.out] at ho; have n0_ := Aside0.mk (Kd.S_after (ok := (fun _ => True)) (by (with_reducible repeat (first | apply Kd.S_alloc | apply Kd.S_drewN | apply Kd.S_drew)); exact ZT HO_3.out (fun _ hk => ⟨trivial, hk⟩)) hg hat); have n1_ := Aside0.mk (ZJ (bq_ BK397.out) hg (Kd.R_ne HO_5.out BK397.out (by decide))); have n2_ := Aside0.mk (hb); have n3_ := Aside0.mk (ho); clear HO_3; clear BK397; clear HB; clear HO_5; have HO_3 := n0_; have BK397 := n1_; have HB := n2_; have HO408 := n3_; clear n0_ n1_ n2_ n3_; clear ho hb hg hat))
      go_roundg k2
      case measure => have := HK1.out; have := HK2.out; omega
      case rel => exact ⟨(y406), (wrap64 (x21_2 + 1)), sm_, H', ⟨by have := HK1.out; have := HK2.out; omega⟩, ⟨by (with_reducible repeat (first | apply Kd.S_alloc | apply Kd.S_drewN | apply Kd.S_drew)); exact ZT HO_3.out (fun _ hk => hk.2)⟩, ⟨rR_ HO408.out⟩, ⟨bk_ BK397.out⟩, ⟨hB_⟩⟩
     rw [if_neg c16] at H
     have c16b0 : decide (x21_2 < a0_0) = false := decide_eq_false c16
     clear c16
     obtain ⟨t409, A22, H⟩ := bd_ H
     try dsimp only at H
     by_cases c23 : t409 = true
     rotate_left
     ·replace c23 := Bool.eq_false_iff.mpr c23
      subst c23
      rw [if_neg (show ¬ (false = true) by decide)] at H
      try dsimp only at H
      have H' := Aside0.mk H
      clear H
      obtain ⟨hcz29_0, hcz29_1, hfz29_0, hfz29_1⟩ := c2_ BK397.out
      obtain ⟨Ao30, co30, eo30⟩ := Kd.R_slice HO_5.out
      subst eo30
      go_wp2_with (first | ((with_reducible refine Zf (f := 25) rfl ?_); refine ZC (some 36) rfl rfl Try.func25 (by kernel_rfl) rfl #[.agg #[.int .i64 a0_0, .slice A0_1 l0_1.length c0_1], .slice Ao30 x5_2.length co30] rfl ar_ ?_; (with_reducible refine (impl_IsComplete.calls k2 a0_0 _ _ l0_1 _ _ x5_2 false _ ?side1 ?side2 ?side3 ?side4 A22.out).mono ?_); (case side1 => exact cb_ HR0_1.out); (case side2 => exact HC0_1.out); (case side3 => exact sA_ (ZE HO_5.out).2.2); (case side4 => exact (ZE HO_5.out).2.1); rintro e w31 ⟨rfl, hb⟩; refine ⟨_, rfl, ?_⟩; replace HO_3 := Aside0.mk (Kd.S_below (rS_ HO_3.out) hb); replace HO_5 := Aside0.mk (Kd.R_below (rR_ HO_5.out) hb); replace BK397 := Aside0.mk (Zd (bq_ BK397.out) hb); replace HB := Aside0.mk (Zc hB_ hb); (try clear hb)))
      go_roundg k2
      case measure => have := HK1.out; have := HK2.out; omega
      case rel => exact ⟨(x3_1), (wrap64 (x15_1 + 1)), sm_, H', ⟨by have := HK1.out; have := HK2.out; omega⟩, ⟨by (with_reducible repeat (first | apply Kd.S_alloc | apply Kd.S_drewN | apply Kd.S_drew)); exact ZT HO_3.out (fun _ hk => trivial)⟩, ⟨bk_ BK397.out⟩, ⟨hB_⟩⟩
     subst c23
     rw [if_pos rfl] at H
     try dsimp only at H
     by_cases c24 : x3_1.length < 5864062014805
     rotate_left
     ·rw [if_neg c24] at H
      exact absurd H (by simp)
     rw [if_pos c24] at H
     have LMc24 := Aside0.mk c24
     clear c24
     obtain ⟨y410, hy410⟩ : ∃ y_ : List (List Int), y_ = (x3_1 ++ [x5_2]) := ⟨_, rfl⟩
     replace H : (impl_AllComplete.l0 k2 y410 ji5 (wrap64 (x15_1 + 1)) a0_0 l0_1) = some r := hy_ hy410 H
     have Ny410 := Aside0.mk hy410
     clear hy410
     have H' := Aside0.mk H
     clear H
     obtain ⟨hcz25_0, hcz25_1, hfz25_0, hfz25_1⟩ := c2_ BK397.out
     obtain ⟨Ao26, co26, eo26⟩ := Kd.R_slice HO_5.out
     subst eo26
     go_wp2_with (first | ((with_reducible refine Zf (f := 25) rfl ?_); refine ZC (some 36) rfl rfl Try.func25 (by kernel_rfl) rfl #[.agg #[.int .i64 a0_0, .slice A0_1 l0_1.length c0_1], .slice Ao26 x5_2.length co26] rfl ar_ ?_; (with_reducible refine (impl_IsComplete.calls k2 a0_0 _ _ l0_1 _ _ x5_2 true _ ?side1 ?side2 ?side3 ?side4 A22.out).mono ?_); (case side1 => exact cb_ HR0_1.out); (case side2 => exact HC0_1.out); (case side3 => exact sA_ (ZE HO_5.out).2.2); (case side4 => exact (ZE HO_5.out).2.1); rintro e w27 ⟨rfl, hb⟩; refine ⟨_, rfl, ?_⟩; replace HO_3 := Aside0.mk (Kd.S_below (rS_ HO_3.out) hb); replace HO_5 := Aside0.mk (Kd.R_below (rR_ HO_5.out) hb); replace BK397 := Aside0.mk (Zd (bq_ BK397.out) hb); replace HB := Aside0.mk (Zc hB_ hb); (try clear hb); (try clear hk)) | ((with_reducible refine gate_builtin (b := .append) (xs := #[.tmp 37, .tmp 39]) rfl ?_); at_builtin; refine Kd.S_append (Kd.slice 3 (Kd.int .i64)) (w0 := w) w.heap.size rfl (.tmp 37) (.tmp 39) 22 31 (.slice none 0 0) 24 rfl Try.underlying22 info31 rfl (by decide) (by omega) u3 x3_1 x5_2 [.slice Ao26 x5_2.length co26] (fun _ => True) (fun k_ => some k_ = (.slice Ao26 x5_2.length co26 : Value).ownBlock) rfl rfl ?aP (fun k_ hk_ => ((ZK (ok' := fun k_ => ((fun _ => True)) k_ ∧ some k_ ≠ (u3 : Value).ownBlock) (ZN (HO_5.out) (Kd.S_typed HO_3.out) (by decide)) (fun k_ hk => ⟨trivial, hk.2⟩))).1 k_ hk_.symm) ?aF ?aO ?aB ?aS ?aL ?_; (case aP => exact Kd.M_row (ZK (Kd.R_tight rfl (ZK (ok' := fun k_ => ((fun _ => True)) k_ ∧ some k_ ≠ (u3 : Value).ownBlock) (ZN (HO_5.out) (Kd.S_typed HO_3.out) (by decide)) (fun k_ hk => ⟨trivial, hk.2⟩))) (fun _ h_ => h_))); (case aB => exact hB_); (case aF => exact (fun _ _ => trivial)); (case aO => exact (by (with_reducible repeat (first | apply Kd.S_alloc | apply Kd.S_drewN | apply Kd.S_drew)); exact ZT HO_3.out (fun k_ hk => ⟨trivial, fun e_ => hk e_⟩))); (case aS => exact (Ze hB_)); (case aL => have := LMc24.out; omega); intro v411 w28 ho hb hg hat; rw [← Ny410.out] at ho; have n0_ := Aside0.mk (ZJ (bq_ BK397.out) hg (Kd.S_ne HO_3.out BK397.out (by decide))); have n1_ := Aside0.mk (hb); have n2_ := Aside0.mk (ho); clear BK397; clear HB; clear HO_3; clear HO_5; have BK397 := n0_; have HB := n1_; have HO412 := n2_; clear n0_ n1_ n2_; clear ho hb hg hat))
     go_roundg k2
     case measure => have := HK1.out; have := HK2.out; omega
     case rel => exact ⟨(y410), (wrap64 (x15_1 + 1)), sm_, H', ⟨by have := HK1.out; have := HK2.out; omega⟩, ⟨rS_ HO412.out⟩, ⟨bk_ BK397.out⟩, ⟨hB_⟩⟩

/-! ### spec_l4Has: function 101 -/
def spec_l4Has.l0 : Nat → List Int → Int → Int → Option (Bool)
 | 0, _, _, _ => none
 | k + 1, x0, x1, x5 => if x5 < (x0.length : Int) then (if 0 ≤ x5 then (if (rd x0 x5) = x1 then (some true) else (spec_l4Has.l0 k x0 x1 (wrap64 (x5 + 1)))) else (none)) else (some false)
def spec_l4Has.f (k : Nat) (l0 : List Int) (a1 : Int) : Option (Bool) := spec_l4Has.l0 k l0 a1 0
theorem spec_l4Has.mono_l : ∀ k, (∀ y0 y1 y2, LeO (spec_l4Has.l0 k y0 y1 y2) (spec_l4Has.l0 (k + 1) y0 y1 y2))
 | 0 => fun _ _ _ r h => by simp [spec_l4Has.l0] at h
 | k + 1 => by
  have ih0 := spec_l4Has.mono_l k
  ·intro y0 y1 y2
   unfold spec_l4Has.l0
   repeat' with_reducible first | apply ih0 | apply Zy | apply Zg | refine Zl ?_ ?_ | refine Zh ?_ (fun _ => ?_)
theorem spec_l4Has.mono : ∀ a0 a1 k, LeO (spec_l4Has.f k a0 a1) (spec_l4Has.f (k + 1) a0 a1) := by
 intro a0 a1 k
 have ih0 := spec_l4Has.mono_l k
 unfold spec_l4Has.f
 repeat' with_reducible first | apply ih0 | apply Zy | apply Zg | refine Zl ?_ ?_ | refine Zh ?_ (fun _ => ?_)
theorem spec_l4Has.calls (k : Nat) (A0 : Option Addr) (c0 : Nat) (l0 : List Int) (a1 : Int) (r : Bool) (w : World) (hr0 : Kd.C (Kd.int .i64) w A0 l0.length l0) (hc0 : l0.length ≤ c0) (h : spec_l4Has.f k l0 a1 = some r) :
  Calls Try.prog 101 #[.slice A0 l0.length c0, .int .i64 a1] w fun e w' => e = .returned (.bool r) ∧ Drawn0 w w' := by
 have HR0 := Aside0.mk hr0
 have HC0 := Aside0.mk hc0
 clear hr0 hc0
 have H := h
 unfold spec_l4Has.f at H
 clear h
 have H' := Aside0.mk H
 clear H
 go_enter Try.func101, Try.ntmps101
 go_wp2
 go_loopg [5] k (fun kq v5 w' => ∃ (x5_1 : Int), v5 = .int .i64 x5_1 ∧ Aside0 (spec_l4Has.l0 kq l0 a1 x5_1 = some r) ∧ Aside0 (kq ≤ k) ∧ Drawn0 w w')
 case atStart => exact ⟨(0), sm_, H', ⟨Nat.le_refl _⟩, dr_⟩
 case round =>
  clear H'
  try clear c1
  try clear p2
  obtain ⟨x5_1, rfl, HA, HK1, ⟨m1, rfl⟩⟩ := hrel
  cases gk with
  | zero => exact absurd HA.out (by simp [spec_l4Has.l0])
  | succ k1 =>
   have H := HA.out
   clear HA
   simp only [spec_l4Has.l0] at H
   by_cases c3 : x5_1 < (l0.length : Int)
   rotate_left
   ·rw [if_neg c3] at H
    have c3b0 : decide (x5_1 < (l0.length : Int)) = false := decide_eq_false c3
    clear c3
    obtain rfl := Option.some.inj H
    go_wp2
    go_ret
    exact ⟨sm_, dr_⟩
   rw [if_pos c3] at H
   have c3b0 : decide (x5_1 < (l0.length : Int)) = true := decide_eq_true c3
   clear c3
   by_cases c4 : 0 ≤ x5_1
   rotate_left
   ·rw [if_neg c4] at H
    exact absurd H (by simp)
   rw [if_pos c4] at H
   have c4b0 : decide (0 ≤ x5_1) = true := decide_eq_true c4
   clear c4
   by_cases c5 : (rd l0 x5_1) = a1
   ·rw [if_pos c5] at H
    have c5b0 : ((rd l0 x5_1) == a1) = true := beq_iff_eq.mpr c5
    have c5b1 : ((rd l0 x5_1) != a1) = false := bne_eq_false_iff_eq.mpr c5
    clear c5
    obtain rfl := Option.some.inj H
    have p413 : 0 ≤ (x5_1 : Int) := of_decide_eq_true as_
    have q413 : x5_1 < (l0.length : Int) := of_decide_eq_true as_
    obtain ⟨ad413, e413, hx413_0⟩ := Zo HR0.out x5_1 p413 q413
    cases e413
    replace p413 := eq_true p413
    replace q413 := eq_true q413
    go_wp2
    go_ret
    exact ⟨sm_, dr_⟩
   rw [if_neg c5] at H
   have c5b0 : ((rd l0 x5_1) == a1) = false := beq_eq_false_iff_ne.mpr c5
   have c5b1 : ((rd l0 x5_1) != a1) = true := bne_iff_ne.mpr c5
   have H' := Aside0.mk H
   clear H
   have p413 : 0 ≤ (x5_1 : Int) := of_decide_eq_true as_
   have q413 : x5_1 < (l0.length : Int) := of_decide_eq_true as_
   obtain ⟨ad413, e413, hx413_0⟩ := Zo HR0.out x5_1 p413 q413
   cases e413
   replace p413 := eq_true p413
   replace q413 := eq_true q413
   go_wp2
   go_roundg k1
   case measure => have := HK1.out; omega
   case rel => exact ⟨(wrap64 (x5_1 + 1)), sm_, H', ⟨by have := HK1.out; omega⟩, dr_⟩

end Go.Proofs.Ytdlobolnajcfnaa.PFnPositions
