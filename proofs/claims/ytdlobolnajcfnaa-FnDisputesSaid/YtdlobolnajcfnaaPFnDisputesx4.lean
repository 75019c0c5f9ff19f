-- Written by a program of this session (hooks of mine on the print): Lean checks it.
import Derived.Test.YtdlobolnajcfnaaPFnDisputesx0
import Derived.Test.YtdlobolnajcfnaaPFnDisputesx1
import Derived.Test.YtdlobolnajcfnaaPFnDisputesx2
import Derived.Test.YtdlobolnajcfnaaPFnDisputesx3
namespace Go.Proofs.Ytdlobolnajcfnaa.PFnDisputes
open Go.RowKit Go.Proofs.YtdlobolnajcfnaaW.PrintWords Go.Proofs.YtdlobolnajcfnaaW.PrintLast Go.Proofs.YtdlobolnajcfnaaW.PrintMore
attribute [local go_sem] max2_int min2_int max_two min_two max_three min_three max_four min_four   -- for this text's walks alone
set_option linter.unusedVariables false
set_option linter.unusedSimpArgs false
set_option maxHeartbeats 8000000
set_option maxRecDepth 100000

/-! ### impl_VictimsOf: function 46 -/
def impl_VictimsOf.l0 : Nat → Int → List Int → List (List Int) → Int → Int → Option (List Int)
 | 0, _, _, _, _, _ => none
 | k + 1, x1, x5, x14, x15, x16 => if x16 < x15 then (if 0 ≤ x16 then (if x16 < (x14.length : Int) then (if 0 < ((rd_L2 x14 x16).length : Int) then (if (rd (rd_L2 x14 x16) 0) = x1 then (if 1 < ((rd_L2 x14 x16).length : Int) then (if x5.length < 17592186044416 then (impl_VictimsOf.l0 k x1 (x5 ++ [rd (rd_L2 x14 x16) 1]) x14 x15 (wrap64 (x16 + 1))) else (none)) else (none)) else (impl_VictimsOf.l0 k x1 x5 x14 x15 (wrap64 (x16 + 1)))) else (none)) else (none)) else (none)) else (some x5)
def impl_VictimsOf.f (k : Nat) (a0_0 : Int) (l0_1 : List (List Int)) (a1 : Int) : Option (List Int) := (some (([] : List Int) : List Int)).bind fun y138 => ((impl_IsGraph.f k a0_0 l0_1).bind fun t141 => (if t141 = true then (impl_VictimsOf.l0 k a1 y138 l0_1 (l0_1.length : Int) 0) else (some y138)))
theorem impl_VictimsOf.mono_l : ∀ k, (∀ y0 y1 y2 y3 y4, LeO (impl_VictimsOf.l0 k y0 y1 y2 y3 y4) (impl_VictimsOf.l0 (k + 1) y0 y1 y2 y3 y4))
 | 0 => fun _ _ _ _ _ r h => by simp [impl_VictimsOf.l0] at h
 | k + 1 => by
  have ih0 := impl_VictimsOf.mono_l k
  ·intro y0 y1 y2 y3 y4
   unfold impl_VictimsOf.l0
   repeat' with_reducible first | apply ih0 | apply impl_IsGraph.mono | apply ZJ | apply Zn | refine Zu ?_ ?_ | refine Zo ?_ (fun _ => ?_)
theorem impl_VictimsOf.mono : ∀ a0 a1 a2 k, LeO (impl_VictimsOf.f k a0 a1 a2) (impl_VictimsOf.f (k + 1) a0 a1 a2) := by
 intro a0 a1 a2 k
 have ih0 := impl_VictimsOf.mono_l k
 unfold impl_VictimsOf.f
 repeat' with_reducible first | apply ih0 | apply impl_IsGraph.mono | apply ZJ | apply Zn | refine Zu ?_ ?_ | refine Zo ?_ (fun _ => ?_)
theorem impl_VictimsOf.calls (k : Nat) (a0_0 : Int) (A0_1 : Option Addr) (c0_1 : Nat) (l0_1 : List (List Int)) (a1 : Int) (r : List Int) (w : World) (hr0_1 : Kd.C (Kd.slice 3 (Kd.int .i64)) w A0_1 l0_1.length l0_1) (hc0_1 : l0_1.length ≤ c0_1) (h : impl_VictimsOf.f k a0_0 l0_1 a1 = some r) :
  Calls Try.prog 46 #[.agg #[.int .i64 a0_0, .slice A0_1 l0_1.length c0_1], .int .i64 a1] w fun e w' => ∃ v0_ : Value, e = .returned (v0_) ∧ Kd.R (Kd.int .i64) 3 w' w.heap.size (fun _ => True) v0_ r ∧ Below w.heap.size w w' := by
 have hu27 := Try.underlying27
 have HR0_1 := Aside0.mk hr0_1
 have HC0_1 := Aside0.mk hc0_1
 clear hr0_1 hc0_1
 have HB := Aside0.mk (Below.refl w.heap.size w)
 have H := h
 unfold impl_VictimsOf.f at H
 clear h
 obtain ⟨y138, hy138⟩ : ∃ y_ : List Int, y_ = (([] : List Int)) := ⟨_, rfl⟩
 replace H : ((impl_IsGraph.f k a0_0 l0_1).bind fun t141 => (if t141 = true then (impl_VictimsOf.l0 k a1 y138 l0_1 (l0_1.length : Int) 0) else (some y138))) = some r := hy_ hy138 H
 have Ny138 := Aside0.mk hy138
 clear hy138
 obtain ⟨t141, A3, H⟩ := bd_ H
 try dsimp only at H
 by_cases c4 : t141 = true
 rotate_left
 ·replace c4 := Bool.eq_false_iff.mpr c4
  subst c4
  rw [if_neg (show ¬ (false = true) by decide)] at H
  try dsimp only at H
  obtain rfl := Option.some.inj H
  go_enter Try.func46, Try.ntmps46
  go_wp2_with (first | ((with_reducible refine ZA (N := 2) rfl ?_); refine ZC ?hg (N := 2) ?hd (cs := #[.int .i64 a0_0, .slice A0_1 l0_1.length c0_1]) (t := 27) ?hr ?_; (case hd => rfl); (case hg => rfl); (case hr => first | (go_simp; done) | (go_simp; rfl)); intro gb137 hg w19 hbox hb; have BK137 := Aside0.mk (hbox); have GW137 := Aside0.mk ((hz_ hg : w.heap.size ≤ gb137)); have GE137 := Aside0.mk ((hz_ hg : w.heap.size ≤ gb137)); replace HB := Aside0.mk (Zh hB_ hb); clear hb hbox hg) | ((with_reducible refine ZA (N := 8) rfl ?_); refine Kd.R_lit (Kd.int .i64) _ 3 ?hg (N := 8) ?hd (xs := ([] : List Int)) (inner := []) (ok := fun _ => True) (okp := fun _ => True) ?hr ?hp (fun _ hk => hk) trivial (Below.refl _ _) (Nat.le_refl _) (by simp) ?_; (case hd => rfl); (case hg => rfl); (case hr => first | (go_simp; done) | (go_simp; rfl)); (case hp => exact (Reps.none _ _)); intro v139 w20 ho21 hb hg_ hnew_; clear hg_ hnew_; (first | rw [← Ny138.out] at ho21 | (simp only [Int.reduceToNat] at ho21; rw [← Ny138.out] at ho21)); have HO140 := Aside0.mk (Kd.R_lower ho21 (Zm hB_)); replace BK137 := Aside0.mk (Zg (bq_ BK137.out) hb); replace HB := Aside0.mk (Zh hB_ hb); clear hb ho21; obtain ⟨hcz22_0, hcz22_1, hfz22_0, hfz22_1⟩ := c2_ BK137.out; (try clear BK137)) | ((with_reducible refine Zl (f := 24) rfl ?_); refine ZI (some 10) rfl rfl Try.func24 (by kernel_rfl) rfl #[.agg #[.int .i64 a0_0, .slice A0_1 l0_1.length c0_1]] rfl ar_ ?_; (with_reducible refine (impl_IsGraph.calls k a0_0 _ _ l0_1 false _ ?side1 ?side2 A3.out).mono ?_); (case side1 => exact cb_ HR0_1.out); (case side2 => exact HC0_1.out); rintro e w23 ⟨rfl, hb⟩; refine ⟨_, rfl, ?_⟩; replace HO140 := Aside0.mk (Kd.R_below (rR_ HO140.out) hb); replace HB := Aside0.mk (Zh hB_ hb); (try clear hb); (try clear hk)))
  go_ret
  exact ⟨_, er_, rR_ HO140.out, hB_⟩
 subst c4
 rw [if_pos rfl] at H
 try dsimp only at H
 have H' := Aside0.mk H
 clear H
 go_enter Try.func46, Try.ntmps46
 go_wp2_with (first | ((with_reducible refine ZA (N := 2) rfl ?_); refine ZC ?hg (N := 2) ?hd (cs := #[.int .i64 a0_0, .slice A0_1 l0_1.length c0_1]) (t := 27) ?hr ?_; (case hd => rfl); (case hg => rfl); (case hr => first | (go_simp; done) | (go_simp; rfl)); intro gb137 hg w5 hbox hb; have BK137 := Aside0.mk (hbox); have GW137 := Aside0.mk ((hz_ hg : w.heap.size ≤ gb137)); have GE137 := Aside0.mk ((hz_ hg : w.heap.size ≤ gb137)); replace HB := Aside0.mk (Zh hB_ hb); clear hb hbox hg) | ((with_reducible refine ZA (N := 8) rfl ?_); refine Kd.R_lit (Kd.int .i64) _ 3 ?hg (N := 8) ?hd (xs := ([] : List Int)) (inner := []) (ok := fun _ => True) (okp := fun _ => True) ?hr ?hp (fun _ hk => hk) trivial (Below.refl _ _) (Nat.le_refl _) (by simp) ?_; (case hd => rfl); (case hg => rfl); (case hr => first | (go_simp; done) | (go_simp; rfl)); (case hp => exact (Reps.none _ _)); intro v139 w6 ho7 hb hg_ hnew_; clear hg_ hnew_; (first | rw [← Ny138.out] at ho7 | (simp only [Int.reduceToNat] at ho7; rw [← Ny138.out] at ho7)); have HO140 := Aside0.mk (Kd.R_lower ho7 (Zm hB_)); replace BK137 := Aside0.mk (Zg (bq_ BK137.out) hb); replace HB := Aside0.mk (Zh hB_ hb); clear hb ho7; obtain ⟨hcz8_0, hcz8_1, hfz8_0, hfz8_1⟩ := c2_ BK137.out) | ((with_reducible refine Zl (f := 24) rfl ?_); refine ZI (some 10) rfl rfl Try.func24 (by kernel_rfl) rfl #[.agg #[.int .i64 a0_0, .slice A0_1 l0_1.length c0_1]] rfl ar_ ?_; (with_reducible refine (impl_IsGraph.calls k a0_0 _ _ l0_1 true _ ?side1 ?side2 A3.out).mono ?_); (case side1 => exact cb_ HR0_1.out); (case side2 => exact HC0_1.out); rintro e w9 ⟨rfl, hb⟩; refine ⟨_, rfl, ?_⟩; replace HO140 := Aside0.mk (Kd.R_below (rR_ HO140.out) hb); replace BK137 := Aside0.mk (Zg (bq_ BK137.out) hb); replace HB := Aside0.mk (Zh hB_ hb); (try clear hb); (try clear hk); obtain ⟨hcz10_0, hcz10_1, hfz10_0, hfz10_1⟩ := c2_ BK137.out))
 go_loopg [5, 16] k (fun kq v5 v16 w' => ∃ (x5_1 : List Int) (x16_1 : Int), v16 = .int .i64 x16_1 ∧ Aside0 (impl_VictimsOf.l0 kq a1 x5_1 l0_1 (l0_1.length : Int) x16_1 = some r) ∧ Aside0 (kq ≤ k) ∧ Aside0 (Kd.R (Kd.int .i64) 3 w' w.heap.size (fun _ => True) v5 x5_1) ∧ Aside0 (Below w.heap.size w w'))
 case atStart => exact ⟨(y138), (0), sm_, H', ⟨Nat.le_refl _⟩, ⟨rR_ HO140.out⟩, ⟨hB_⟩⟩
 case round =>
  clear H'
  try clear c2
  try clear p2
  try clear c4
  try clear hcz10_0
  try clear hcz10_1
  try clear hcz8_0
  try clear hcz8_1
  try clear hfz10_0
  try clear hfz10_1
  try clear hfz8_0
  try clear hfz8_1
  obtain ⟨x5_1, x16_1, rfl, HA, HK1, HO_5, HB⟩ := hrel
  cases gk with
  | zero => exact absurd HA.out (by simp [impl_VictimsOf.l0])
  | succ k1 =>
   have H := HA.out
   clear HA
   simp only [impl_VictimsOf.l0] at H
   by_cases c11 : x16_1 < (l0_1.length : Int)
   rotate_left
   ·rw [if_neg c11] at H
    have c11b0 : decide (x16_1 < (l0_1.length : Int)) = false := decide_eq_false c11
    clear c11
    obtain rfl := Option.some.inj H
    go_wp2
    go_ret
    exact ⟨_, er_, rR_ HO_5.out, hB_⟩
   rw [if_pos c11] at H
   have c11b0 : decide (x16_1 < (l0_1.length : Int)) = true := decide_eq_true c11
   clear c11
   by_cases c12 : 0 ≤ x16_1
   rotate_left
   ·rw [if_neg c12] at H
    exact absurd H (by simp)
   rw [if_pos c12] at H
   have c12b0 : decide (0 ≤ x16_1) = true := decide_eq_true c12
   clear c12
   by_cases c13 : x16_1 < (l0_1.length : Int)
   rotate_left
   ·rw [if_neg c13] at H
    exact absurd H (by simp)
   rw [if_pos c13] at H
   have c13b0 : decide (x16_1 < (l0_1.length : Int)) = true := decide_eq_true c13
   clear c13
   by_cases c14 : 0 < ((rd_L2 l0_1 x16_1).length : Int)
   rotate_left
   ·rw [if_neg c14] at H
    exact absurd H (by simp)
   rw [if_pos c14] at H
   have c14b0 : decide (0 < ((rd_L2 l0_1 x16_1).length : Int)) = true := decide_eq_true c14
   have c14b1 : decide (0 < (rd_L2 l0_1 x16_1).length) = true := decide_eq_true (by omega)
   clear c14
   by_cases c15 : (rd (rd_L2 l0_1 x16_1) 0) = a1
   rotate_left
   ·rw [if_neg c15] at H
    have c15b0 : ((rd (rd_L2 l0_1 x16_1) 0) == a1) = false := beq_eq_false_iff_ne.mpr c15
    have c15b1 : ((rd (rd_L2 l0_1 x16_1) 0) != a1) = true := bne_iff_ne.mpr c15
    have H' := Aside0.mk H
    clear H
    have p142 : 0 ≤ (x16_1 : Int) := of_decide_eq_true as_
    have q142 : x16_1 < (l0_1.length : Int) := of_decide_eq_true as_
    obtain ⟨ad142, A142_0, c142_0, e142, hx142_0, hl142_0, hi142_0⟩ := at_L2 HR0_1.out x16_1 p142 q142
    cases e142
    replace hx142_0 := (HB.out.cell (World.block_lt_of_cell? w _ hx142_0)).trans hx142_0
    have HR142_0 := Aside0.mk hi142_0
    have HC142_0 := Aside0.mk hl142_0
    clear hi142_0 hl142_0
    replace p142 := eq_true p142
    replace q142 := eq_true q142
    have p143 : 0 ≤ (0 : Int) := (by omega)
    have q143 : 0 < ((rd_L2 l0_1 x16_1).length : Int) := of_decide_eq_true as_
    obtain ⟨ad143, e143, hx143_0⟩ := Zx HR142_0.out 0 p143 q143
    cases e143
    have qi143 : (0 < (rd_L2 l0_1 x16_1).length) = True := eq_true (by omega)
    (try rw [show ((0 : Int)).toNat = 0 from rfl] at hx143_0)
    (try rw [Addr.add_zero'] at hx143_0)
    replace hx143_0 := (HB.out.cell (World.block_lt_of_cell? w _ hx143_0)).trans hx143_0
    replace p143 := eq_true p143
    replace q143 := eq_true q143
    go_wp2
    go_roundg k1
    case measure => have := HK1.out; omega
    case rel => exact ⟨(x5_1), (wrap64 (x16_1 + 1)), sm_, H', ⟨by have := HK1.out; omega⟩, ⟨rR_ HO_5.out⟩, ⟨hB_⟩⟩
   rw [if_pos c15] at H
   have c15b0 : ((rd (rd_L2 l0_1 x16_1) 0) == a1) = true := beq_iff_eq.mpr c15
   have c15b1 : ((rd (rd_L2 l0_1 x16_1) 0) != a1) = false := bne_eq_false_iff_eq.mpr c15
   clear c15
   by_cases c16 : 1 < ((rd_L2 l0_1 x16_1).length : Int)
   rotate_left
   ·rw [if_neg c16] at H
    exact absurd H (by simp)
   rw [if_pos c16] at H
   have c16b0 : decide (1 < ((rd_L2 l0_1 x16_1).length : Int)) = true := decide_eq_true c16
   have c16b1 : decide (1 < (rd_L2 l0_1 x16_1).length) = true := decide_eq_true (by omega)
   clear c16
   by_cases c17 : x5_1.length < 17592186044416
   rotate_left
   ·rw [if_neg c17] at H
    exact absurd H (by simp)
   rw [if_pos c17] at H
   have LMc17 := Aside0.mk c17
   clear c17
   obtain ⟨y145, hy145⟩ : ∃ y_ : List Int, y_ = (x5_1 ++ [rd (rd_L2 l0_1 x16_1) 1]) := ⟨_, rfl⟩
   replace H : (impl_VictimsOf.l0 k1 a1 y145 l0_1 (l0_1.length : Int) (wrap64 (x16_1 + 1))) = some r := hy_ hy145 H
   have Ny145 := Aside0.mk hy145
   clear hy145
   have H' := Aside0.mk H
   clear H
   have p142 : 0 ≤ (x16_1 : Int) := of_decide_eq_true as_
   have q142 : x16_1 < (l0_1.length : Int) := of_decide_eq_true as_
   obtain ⟨ad142, A142_0, c142_0, e142, hx142_0, hl142_0, hi142_0⟩ := at_L2 HR0_1.out x16_1 p142 q142
   cases e142
   replace hx142_0 := (HB.out.cell (World.block_lt_of_cell? w _ hx142_0)).trans hx142_0
   have HR142_0 := Aside0.mk hi142_0
   have HC142_0 := Aside0.mk hl142_0
   clear hi142_0 hl142_0
   replace p142 := eq_true p142
   replace q142 := eq_true q142
   have p143 : 0 ≤ (0 : Int) := (by omega)
   have q143 : 0 < ((rd_L2 l0_1 x16_1).length : Int) := of_decide_eq_true as_
   obtain ⟨ad143, e143, hx143_0⟩ := Zx HR142_0.out 0 p143 q143
   cases e143
   have qi143 : (0 < (rd_L2 l0_1 x16_1).length) = True := eq_true (by omega)
   (try rw [show ((0 : Int)).toNat = 0 from rfl] at hx143_0)
   (try rw [Addr.add_zero'] at hx143_0)
   replace hx143_0 := (HB.out.cell (World.block_lt_of_cell? w _ hx143_0)).trans hx143_0
   replace p143 := eq_true p143
   replace q143 := eq_true q143
   have p144 : 0 ≤ (1 : Int) := (by omega)
   have q144 : 1 < ((rd_L2 l0_1 x16_1).length : Int) := of_decide_eq_true as_
   obtain ⟨ad144, e144, hx144_0⟩ := Zx HR142_0.out 1 p144 q144
   obtain rfl : ad143 = ad144 := (by injection e144)
   (try simp only [show (1 : Int).toNat = 1 from rfl, Nat.reduceMul, Nat.reduceEqDiff, Go.Addr.add, ↓reduceIte] at hx144_0)
   have qi144 : (1 < (rd_L2 l0_1 x16_1).length) = True := eq_true (by omega)
   (try rw [show ((1 : Int)).toNat = 1 from rfl] at hx144_0)
   replace hx144_0 := (HB.out.cell (World.block_lt_of_cell? w _ hx144_0)).trans hx144_0
   replace p144 := eq_true p144
   replace q144 := eq_true q144
   go_wp2_with (first | ((with_reducible refine gate_builtin (b := .append) (xs := #[.tmp 25, .tmp 29]) rfl ?_); at_builtin; refine Kd.R_append (Kd.int .i64) (w0 := w) w.heap.size rfl (.tmp 25) (.tmp 29) 31 3 (.int .i64 0) 8 rfl Try.underlying31 info3 rfl (by decide) (by omega) u5 x5_1 (rd (rd_L2 l0_1 x16_1) 1) [.int .i64 (rd (rd_L2 l0_1 x16_1) 1)] (fun _ => True) (fun _ => False) rfl rfl ?aP (fun _ hk => hk.elim) ?aF ?aO ?aB ?aS ?aL ?_; (case aP => exact rfl); (case aB => exact hB_); (case aF => exact (fun _ _ => trivial)); (case aO => exact (rR_ HO_5.out)); (case aS => exact (Zm hB_)); (case aL => have := LMc17.out; omega); intro v146 w18 ho hb hg hat; rw [← Ny145.out] at ho; have n0_ := Aside0.mk (hb); have n1_ := Aside0.mk (ho); clear HB; clear HO_5; have HB := n0_; have HO147 := n1_; clear n0_ n1_; clear ho hb hg hat))
   go_roundg k1
   case measure => have := HK1.out; omega
   case rel => exact ⟨(y145), (wrap64 (x16_1 + 1)), sm_, H', ⟨by have := HK1.out; omega⟩, ⟨rR_ HO147.out⟩, ⟨hB_⟩⟩

/-! ### slices_Sort_int_int: function 137 -/
/-- slices.Sort of ints: the row holds the same numbers, in order. -/
def sorted_ (l : List Int) : List Int := l.mergeSort fun x y => decide (x ≤ y)
theorem sorted_nil : sorted_ [] = [] := by simp [sorted_]
theorem sorted_len (l : List Int) : (sorted_ l).length = l.length := List.length_mergeSort ..
def slices_Sort_int_int.f (l0 : List Int) : Option (List Int) := if l0.length < 4611686018427387904 then some (sorted_ l0) else none
theorem holds_ints {w : World} {e base : Nat} {ok : Nat → Prop} {g cap : Nat} {xs : List Int} (h : Kd.R (Kd.int .i64) e w base ok (.slice (some ⟨g, 0, none⟩) xs.length cap) xs) : Go.Sort.Holds (Value.int .i64) w g 0 xs.toArray := by
  intro j hj
  have hj' : j < xs.length := by simpa using hj
  have h1 := Kd.R_cell (0 : Int) h (j : Int) (by omega) (by omega)
  refine ⟨?_, ?_⟩
  rotate_left
  ·rw [Nat.zero_add]
   exact h1.2
  rw [Nat.zero_add]
  refine h1.1.trans ?_
  simp [rdOf, hj']
theorem ints_put {w : World} {base : Nat} {ok : Nat → Prop} {g cap n : Nat} {os : Array Obj} {xs ys : List Int} (h : Kd.R (Kd.int .i64) 3 w base ok (.slice (some ⟨g, 0, none⟩) xs.length cap) xs) (hl : ys.length = xs.length) :
    Kd.R (Kd.int .i64) 3 (Go.Sort.grow (Go.Sort.putRow (Value.int .i64) (Go.Sort.ahead w n) g 0 ys.toArray) os) base ok (.slice (some ⟨g, 0, none⟩) xs.length cap) ys := by
  have ho := Kd.own_of_R h
  rcases ho.2 with ⟨he, _⟩ | ⟨g2, cap2, cur, he, hb, hh, hnc, hcm, hcs, ht⟩
  ·exact absurd he (by simp)
  injection he with e1 e2 e3
  injection e1 with e1
  injection e1 with e1
  subst e1
  subst e3
  exact Kd.R_of_own (by have h2 := ownsRow_sortedI (n := n) (os := os) hl hb hh hnc hcm hcs; rw [hl]; exact h2) h.1
theorem slices_Sort_int_int.calls (P0_ : Nat → Prop) (u9000_ : Value) (l0 : List Int) (r1 : List Int) (w0 w : World) (hB : Below w0.heap.size w0 w) (ho0 : Kd.R (Kd.int .i64) 3 w w0.heap.size P0_ u9000_ l0) (h : slices_Sort_int_int.f l0 = some r1) :
    Calls Try.prog 137 #[u9000_] w fun e w' => e = .returned (.tuple #[]) ∧ Kd.R (Kd.int .i64) 3 w' w0.heap.size (fun k_ => (P0_ k_ ∨ w.heap.size ≤ k_)) u9000_ r1 ∧ Below w0.heap.size w0 w' ∧ Kept w w' (fun k_ => P0_ k_) := by
  unfold slices_Sort_int_int.f at h
  by_cases hl : l0.length < 4611686018427387904
  rotate_left
  ·rw [if_neg hl] at h
   exact absurd h (by simp)
  rw [if_pos hl] at h
  obtain rfl := Option.some.inj h
  by_cases h0 : 0 < l0.length
  ·obtain ⟨g, cap, rfl, hbg, hgl, cells, hc⟩ := Kd.R_form ho0 h0
   refine (YtdlobolnajcfnaaSh.sort_calls g 0 cap l0 w (holds_ints ho0) hgl hl).mono ?_
   rintro e w' ⟨rfl, n, os, rfl⟩
   have hg : w.grownBy _ (some g) := grownBy_sortedI (n := n) (os := os) (sorted_ l0).toArray
   refine ⟨rfl, Zw (ints_put ho0 (sorted_len l0)) (fun k hk => .inl hk), hB.grown hg hB.size (by intro k hk; injection hk with hk; omega), Kept.of_grown hg (Kept.refl w _) (by intro k hk; injection hk with hk; subst hk; exact .inl (ho0.1 _ rfl))⟩
  obtain rfl := List.eq_nil_of_length_eq_zero (show l0.length = 0 by omega)
  obtain ⟨A, c, rfl⟩ := Kd.R_slice ho0
  refine (YtdlobolnajcfnaaSh.sort_none A c w).mono ?_
  rintro e w' ⟨rfl, rfl⟩
  exact ⟨rfl, by rw [sorted_nil]; exact Zw ho0 (fun k hk => .inl hk), hB, Kept.refl _ _⟩

/-! ### slices_Compact_int_int: function 138 -/
/-- slices.Compact of ints: the row handed back, shorter. -/
def slices_Compact_int_int.f (l0 : List Int) : Option (List Int) := some (Go.Lib.compact l0)
theorem compact_le (l : List Int) : (Go.Lib.compact l).length ≤ l.length := by
  unfold Go.Lib.compact Go.Lib.compactUpTo
  rw [List.length_map]
  exact Nat.le_trans (List.length_filter_le _ _) (by simp)
theorem R_shorter {w : World} {base : Nat} {ok : Nat → Prop} {g n cap : Nat} {xs ys : List Int} (h : Kd.R (Kd.int .i64) 3 w base ok (.slice (some ⟨g, 0, none⟩) n cap) (xs ++ ys)) : Kd.R (Kd.int .i64) 3 w base ok (.slice (some ⟨g, 0, none⟩) xs.length cap) xs := by
  have ho := Kd.own_of_R h
  rcases ho.2 with ⟨he, _⟩ | ⟨g2, cap2, cur, he, hb, hh, hnc, hcm, hcs, ht⟩
  ·exact absurd he (by simp)
  injection he with e1 e2 e3
  injection e1 with e1
  injection e1 with e1
  subst e1
  subst e3
  unfold encs at ht
  refine Kd.R_of_own ⟨by simp [encs], .inr ⟨g, cap, cur, rfl, hb, hh, ?_, hcm, hcs, ?_⟩⟩ h.1
  ·rw [List.length_append] at hnc
   omega
  have h2 := congrArg (List.take xs.length) ht
  rw [List.take_take, Nat.mul_one, Nat.min_eq_left (by rw [List.length_append]; omega), List.map_append, List.take_append_of_le_length (by simp), List.take_of_length_le (l := xs.map (Value.int .i64)) (by simp)] at h2
  rw [Nat.mul_one]
  unfold encs
  exact h2
theorem slices_Compact_int_int.calls (P0_ : Nat → Prop) (u9000_ : Value) (l0 : List Int) (r : List Int) (w0 w : World) (hB : Below w0.heap.size w0 w) (ho0 : Kd.R (Kd.int .i64) 3 w w0.heap.size P0_ u9000_ l0) (h : slices_Compact_int_int.f l0 = some r) :
    Calls Try.prog 138 #[u9000_] w fun e w' => ∃ v0_ : Value, e = .returned v0_ ∧ Kd.R (Kd.int .i64) 3 w' w0.heap.size (fun k_ => (P0_ k_ ∨ w.heap.size ≤ k_)) v0_ r ∧ Below w0.heap.size w0 w' ∧ Kept w w' (fun k_ => P0_ k_) := by
  obtain rfl := Option.some.inj h
  by_cases h0 : 0 < l0.length
  rotate_left
  ·obtain rfl := List.eq_nil_of_length_eq_zero (show l0.length = 0 by omega)
   obtain ⟨A, c, rfl⟩ := Kd.R_slice ho0
   refine (YtdlobolnajcfnaaSh.compact_none A c w).mono ?_
   rintro e w' ⟨rfl, rfl⟩
   exact ⟨_, rfl, Zw ho0 (fun k hk => .inl hk), hB, Kept.refl _ _⟩
  obtain ⟨g, cap, rfl, hbg, hgl, cells, hc⟩ := Kd.R_form ho0 h0
  have hn := (ZF ho0).2.1
  have hm : l0.length ≤ 9223372036854775807 := (ZF ho0).2.2.2.1
  refine (YtdlobolnajcfnaaSh.compact_calls g 0 cap l0 w (holds_ints ho0) hm hn).mono ?_
  rintro e w' ⟨rfl, q, hw⟩
  have hle := compact_le l0
  have hl : (Go.Lib.compact l0 ++ List.replicate (l0.length - (Go.Lib.compact l0).length) 0).length = l0.length := by
    rw [List.length_append, List.length_replicate]
    omega
  have hw2 : w' = Go.Sort.grow (Go.Sort.putRow (Value.int .i64) (Go.Sort.ahead w q) g 0 (Go.Lib.compact l0 ++ List.replicate (l0.length - (Go.Lib.compact l0).length) 0).toArray) #[] := by rw [hw, Go.Sort.grow_empty]
  subst hw2
  have hg : w.grownBy _ (some g) := grownBy_sortedI (n := q) (os := #[]) (Go.Lib.compact l0 ++ List.replicate (l0.length - (Go.Lib.compact l0).length) 0).toArray
  refine ⟨_, rfl, Zw (R_shorter (ints_put ho0 hl)) (fun k hk => .inl hk), hB.grown hg hB.size (by intro k hk; injection hk with hk; omega), Kept.of_grown hg (Kept.refl w _) (by intro k hk; injection hk with hk; subst hk; exact .inl (ho0.1 _ rfl))⟩

/-! ### impl_HitBy: function 114 -/
def impl_HitBy.l0 : Nat → List Int → List Int → Int → Int → Int → List (List Int) → Option (List Int)
 | 0, _, _, _, _, _, _ => none
 | k + 1, x5, x9, x10, x11, x149000, x149001 => if x11 < x10 then (if 0 ≤ x11 then (if x11 < (x9.length : Int) then ((impl_VictimsOf.f k x149000 x149001 (rd x9 x11)).bind fun t153 => (if x5.length + t153.length < 17592186044416 then (impl_HitBy.l0 k (x5 ++ t153) x9 x10 (wrap64 (x11 + 1)) x149000 x149001) else (none))) else (none)) else (none)) else ((slices_Sort_int_int.f x5).bind fun t159 => ((slices_Compact_int_int.f t159).bind fun t160 => (some t160)))
def impl_HitBy.f (k : Nat) (a0_0 : Int) (l0_1 : List (List Int)) (l1 : List Int) : Option (List Int) := impl_HitBy.l0 k (([] : List Int)) l1 (l1.length : Int) 0 a0_0 l0_1
theorem impl_HitBy.mono_l : ∀ k, (∀ y0 y1 y2 y3 y4 y5, LeO (impl_HitBy.l0 k y0 y1 y2 y3 y4 y5) (impl_HitBy.l0 (k + 1) y0 y1 y2 y3 y4 y5))
 | 0 => fun _ _ _ _ _ _ r h => by simp [impl_HitBy.l0] at h
 | k + 1 => by
  have ih0 := impl_HitBy.mono_l k
  ·intro y0 y1 y2 y3 y4 y5
   unfold impl_HitBy.l0
   repeat' with_reducible first | apply ih0 | apply impl_VictimsOf.mono | apply ZJ | apply Zn | refine Zu ?_ ?_ | refine Zo ?_ (fun _ => ?_)
theorem impl_HitBy.mono : ∀ a0 a1 a2 k, LeO (impl_HitBy.f k a0 a1 a2) (impl_HitBy.f (k + 1) a0 a1 a2) := by
 intro a0 a1 a2 k
 have ih0 := impl_HitBy.mono_l k
 unfold impl_HitBy.f
 repeat' with_reducible first | apply ih0 | apply impl_VictimsOf.mono | apply ZJ | apply Zn | refine Zu ?_ ?_ | refine Zo ?_ (fun _ => ?_)
theorem impl_HitBy.calls (k : Nat) (a0_0 : Int) (A0_1 : Option Addr) (c0_1 : Nat) (l0_1 : List (List Int)) (A1 : Option Addr) (c1 : Nat) (l1 : List Int) (r : List Int) (w : World) (hr0_1 : Kd.C (Kd.slice 3 (Kd.int .i64)) w A0_1 l0_1.length l0_1) (hc0_1 : l0_1.length ≤ c0_1) (hr1 : Kd.C (Kd.int .i64) w A1 l1.length l1) (hc1 : l1.length ≤ c1) (h : impl_HitBy.f k a0_0 l0_1 l1 = some r) :
  Calls Try.prog 114 #[.agg #[.int .i64 a0_0, .slice A0_1 l0_1.length c0_1], .slice A1 l1.length c1] w fun e w' => ∃ v0_ : Value, e = .returned (v0_) ∧ Kd.R (Kd.int .i64) 3 w' w.heap.size (fun _ => True) v0_ r ∧ Below w.heap.size w w' := by
 have hu27 := Try.underlying27
 have HR0_1 := Aside0.mk hr0_1
 have HC0_1 := Aside0.mk hc0_1
 clear hr0_1 hc0_1
 have HR1 := Aside0.mk hr1
 have HC1 := Aside0.mk hc1
 clear hr1 hc1
 have HB := Aside0.mk (Below.refl w.heap.size w)
 have H := h
 unfold impl_HitBy.f at H
 clear h
 obtain ⟨y149, hy149⟩ : ∃ y_ : List Int, y_ = (([] : List Int)) := ⟨_, rfl⟩
 replace H : (impl_HitBy.l0 k y149 l1 (l1.length : Int) 0 a0_0 l0_1) = some r := hy_ hy149 H
 have Ny149 := Aside0.mk hy149
 clear hy149
 have H' := Aside0.mk H
 clear H
 go_enter Try.func114, Try.ntmps114
 go_wp2_with (first | ((with_reducible refine ZA (N := 2) rfl ?_); refine ZC ?hg (N := 2) ?hd (cs := #[.int .i64 a0_0, .slice A0_1 l0_1.length c0_1]) (t := 27) ?hr ?_; (case hd => rfl); (case hg => rfl); (case hr => first | (go_simp; done) | (go_simp; rfl)); intro gb148 hg w3 hbox hb; have BK148 := Aside0.mk (hbox); have GW148 := Aside0.mk ((hz_ hg : w.heap.size ≤ gb148)); have GE148 := Aside0.mk ((hz_ hg : w.heap.size ≤ gb148)); replace HB := Aside0.mk (Zh hB_ hb); clear hb hbox hg) | ((with_reducible refine ZA (N := 8) rfl ?_); refine Kd.R_lit (Kd.int .i64) _ 3 ?hg (N := 8) ?hd (xs := ([] : List Int)) (inner := []) (ok := fun _ => True) (okp := fun _ => True) ?hr ?hp (fun _ hk => hk) trivial (Below.refl _ _) (Nat.le_refl _) (by simp) ?_; (case hd => rfl); (case hg => rfl); (case hr => first | (go_simp; done) | (go_simp; rfl)); (case hp => exact (Reps.none _ _)); intro v150 w4 ho5 hb hg_ hnew_; clear hg_ hnew_; (first | rw [← Ny149.out] at ho5 | (simp only [Int.reduceToNat] at ho5; rw [← Ny149.out] at ho5)); have HO151 := Aside0.mk (Kd.R_lower ho5 (Zm hB_)); replace BK148 := Aside0.mk (Zg (bq_ BK148.out) hb); replace HB := Aside0.mk (Zh hB_ hb); clear hb ho5))
 go_loopg [5, 11] k (fun kq v5 v11 w' => ∃ (x5_1 : List Int) (x11_1 : Int), v11 = .int .i64 x11_1 ∧ Aside0 (impl_HitBy.l0 kq x5_1 l1 (l1.length : Int) x11_1 a0_0 l0_1 = some r) ∧ Aside0 (kq ≤ k) ∧ Aside0 (Kd.R (Kd.int .i64) 3 w' w.heap.size (fun _ => True) v5 x5_1) ∧ Aside0 (w'.heap[gb148]? = some (.cells #[.int .i64 a0_0, (.slice A0_1 l0_1.length c0_1)] 27 (0, 0))) ∧ Aside0 (Below w.heap.size w w'))
 case atStart => exact ⟨(y149), (0), sm_, H', ⟨Nat.le_refl _⟩, ⟨rR_ HO151.out⟩, ⟨bk_ BK148.out⟩, ⟨hB_⟩⟩
 case round =>
  clear H'
  try clear c1
  try clear p2
  obtain ⟨x5_1, x11_1, rfl, HA, HK1, HO_5, BK148, HB⟩ := hrel
  cases gk with
  | zero => exact absurd HA.out (by simp [impl_HitBy.l0])
  | succ k1 =>
   have H := HA.out
   clear HA
   simp only [impl_HitBy.l0] at H
   by_cases c6 : x11_1 < (l1.length : Int)
   rotate_left
   ·rw [if_neg c6] at H
    have c6b0 : decide (x11_1 < (l1.length : Int)) = false := decide_eq_false c6
    clear c6
    obtain ⟨t159, A15, H⟩ := bd_ H
    try dsimp only at H
    obtain ⟨t160, A16, H⟩ := bd_ H
    try dsimp only at H
    obtain rfl := Option.some.inj H
    (try clear BK148)
    obtain ⟨Ao17, co17, eo17⟩ := Kd.R_slice HO_5.out
    subst eo17
    go_wp2_with (first | ((with_reducible refine Zl (f := 137) rfl ?_); refine ZI (some 22) rfl rfl Try.func137 (by kernel_rfl) rfl #[.slice Ao17 x5_1.length co17] rfl ar_ ?_; (with_reducible refine (slices_Sort_int_int.calls (fun k_ => some k_ = (.slice Ao17 x5_1.length co17 : Value).ownBlock) (.slice Ao17 x5_1.length co17) x5_1 t159 w _ ?side1 ?side2 A15.out).mono ?_); (case side1 => exact qC_ HB.out); (case side2 => exact Kd.R_tight rfl HO_5.out); rintro e w18 ⟨rfl, hy0, hb, hkp⟩; refine ⟨_, rfl, ?_⟩; replace HO_5 := Aside0.mk (Kd.R_reok rfl hy0 (fun k_ e_ => HO_5.out.1 k_ e_)); replace HB := Aside0.mk (hb); (try clear hb); (try clear hkp); (try clear hy0)) | ((with_reducible refine Zl (f := 138) rfl ?_); refine ZI (some 24) rfl rfl Try.func138 (by kernel_rfl) rfl #[.slice Ao17 x5_1.length co17] rfl ar_ ?_; (with_reducible refine (slices_Compact_int_int.calls (fun k_ => some k_ = (.slice Ao17 x5_1.length co17 : Value).ownBlock) (.slice Ao17 x5_1.length co17) t159 t160 w _ ?side1 ?side2 A16.out).mono ?_); (case side1 => exact qC_ HB.out); (case side2 => exact Kd.R_tight rfl HO_5.out); rintro e w19 ⟨v161, rfl, ho0, hb, hkp⟩; refine ⟨_, rfl, ?_⟩; have n0_ := Aside0.mk (Zw (ok' := fun k_ => True) ho0 (fun k_ hk_ => trivial)); have n1_ := Aside0.mk (hb); clear HB; clear HO_5; have HO162 := n0_; have HB := n1_; clear n0_ n1_; (try clear hb); (try clear hkp); (try clear ho0)))
    go_ret
    exact ⟨_, er_, rR_ HO162.out, hB_⟩
   rw [if_pos c6] at H
   have c6b0 : decide (x11_1 < (l1.length : Int)) = true := decide_eq_true c6
   clear c6
   by_cases c7 : 0 ≤ x11_1
   rotate_left
   ·rw [if_neg c7] at H
    exact absurd H (by simp)
   rw [if_pos c7] at H
   have c7b0 : decide (0 ≤ x11_1) = true := decide_eq_true c7
   clear c7
   by_cases c8 : x11_1 < (l1.length : Int)
   rotate_left
   ·rw [if_neg c8] at H
    exact absurd H (by simp)
   rw [if_pos c8] at H
   have c8b0 : decide (x11_1 < (l1.length : Int)) = true := decide_eq_true c8
   clear c8
   obtain ⟨t153, A9, H⟩ := bd_ H
   try dsimp only at H
   by_cases c10 : x5_1.length + t153.length < 17592186044416
   rotate_left
   ·rw [if_neg c10] at H
    exact absurd H (by simp)
   rw [if_pos c10] at H
   have LMc10 := Aside0.mk c10
   clear c10
   obtain ⟨y156, hy156⟩ : ∃ y_ : List Int, y_ = (x5_1 ++ t153) := ⟨_, rfl⟩
   replace H : (impl_HitBy.l0 k1 y156 l1 (l1.length : Int) (wrap64 (x11_1 + 1)) a0_0 l0_1) = some r := hy_ hy156 H
   have Ny156 := Aside0.mk hy156
   clear hy156
   have H' := Aside0.mk H
   clear H
   have p152 : 0 ≤ (x11_1 : Int) := of_decide_eq_true as_
   have q152 : x11_1 < (l1.length : Int) := of_decide_eq_true as_
   obtain ⟨ad152, e152, hx152_0⟩ := Zx HR1.out x11_1 p152 q152
   cases e152
   replace hx152_0 := (HB.out.cell (World.block_lt_of_cell? w _ hx152_0)).trans hx152_0
   replace p152 := eq_true p152
   replace q152 := eq_true q152
   obtain ⟨hcz11_0, hcz11_1, hfz11_0, hfz11_1⟩ := c2_ BK148.out
   go_wp2_with (first | ((with_reducible refine Zl (f := 46) rfl ?_); refine ZI (some 18) rfl rfl Try.func46 (by kernel_rfl) rfl #[.agg #[.int .i64 a0_0, .slice A0_1 l0_1.length c0_1], .int .i64 (rd l1 x11_1)] rfl ar_ ?_; (with_reducible refine (impl_VictimsOf.calls k1 a0_0 _ _ l0_1 (rd l1 x11_1) t153 _ ?side1 ?side2 A9.out).mono ?_); (case side1 => exact cb_ HR0_1.out); (case side2 => exact HC0_1.out); rintro e w12 ⟨v154, rfl, ho0, hb⟩; refine ⟨_, rfl, ?_⟩; have HO155 := Aside0.mk (Kd.R_lower (Kd.R_new' ho0 (Kd.R_lt (rR_ HO_5.out))) (Zm hB_)); replace HO_5 := Aside0.mk (Kd.R_elder' (rR_ HO_5.out) (Kd.R_base ho0) hb); replace BK148 := Aside0.mk (Zg (bq_ BK148.out) hb); replace HB := Aside0.mk (Zh hB_ hb); (try clear hb); (try clear hk); (try clear ho0); obtain ⟨Ao14, co14, eo14⟩ := Kd.R_slice HO155.out; subst eo14) | ((with_reducible refine gate_builtin (b := .append) (xs := #[.tmp 15, .tmp 18]) rfl ?_); at_builtin; refine Kd.R_append_rows (Kd.int .i64) (w0 := w) w.heap.size rfl (.tmp 15) (.tmp 18) 31 3 (.int .i64 0) 8 rfl Try.underlying31 info3 rfl (by decide) (by omega) u5 x5_1 t153 _ _ _ (fun k_ => some k_ ≠ (.slice Ao14 t153.length co14 : Value).ownBlock) (fun _ => False) rfl rfl ?aO ?aR (fun _ _ h => h) (fun _ h => h.elim) ?aF ?aB ?aS ?aL ?_; (case aR => repeat (first | exact (ZF HO155.out).2.2 | (with_reducible refine ZM ?_ _) | (with_reducible refine ZH ?_ _) | (with_reducible refine ZQ ?_))); (case aB => exact hB_); (case aF => exact (fun k_ hk => Kd.fresh' (Kd.R_lt (rR_ HO155.out)) k_ hk)); (case aO => exact (by (with_reducible repeat (first | apply ZP | apply ZO | apply ZU)); exact Zw HO_5.out (fun _ hk => hk.2))); (case aS => exact (Zm hB_)); (case aL => have := LMc10.out; omega); intro v157 w13 ho hb hg hat; rw [← Ny156.out] at ho; have n0_ := Aside0.mk (ZT (bq_ BK148.out) hg (Kd.R_ne HO_5.out BK148.out (by decide))); have n1_ := Aside0.mk (Kd.R_after (ok := (fun _ => True)) (rR_ HO155.out) hg hat); have n2_ := Aside0.mk (hb); have n3_ := Aside0.mk (ho); clear BK148; clear HO155; clear HB; clear HO_5; have BK148 := n0_; have HO155 := n1_; have HB := n2_; have HO158 := n3_; clear n0_ n1_ n2_ n3_; clear ho hb hg hat))
   go_roundg k1
   case measure => have := HK1.out; omega
   case rel => exact ⟨(y156), (wrap64 (x11_1 + 1)), sm_, H', ⟨by have := HK1.out; omega⟩, ⟨by (with_reducible repeat (first | apply ZP | apply ZO | apply ZU)); exact Zw HO158.out (fun _ hk => trivial)⟩, ⟨bk_ BK148.out⟩, ⟨hB_⟩⟩

/-! ### impl_Defends: function 115 -/
mutual
def impl_Defends.j0 : Nat → List Int → Int → Bool → Int → List (List Int) → Option (Bool)
 | 0, _, _, _, _, _ => none
 | k + 1, x1, x2, x19, x164000, x164001 => if x19 = true then (some false) else ((impl_HitBy.f k x164000 x164001 x1).bind fun t166 => ((impl_AttackersOf.f k x164000 x164001 x2).bind fun t169 => (impl_Defends.l0 k t166 t169 (t169.length : Int) 0)))
def impl_Defends.l0 : Nat → List Int → List Int → Int → Int → Option (Bool)
 | 0, _, _, _, _ => none
 | k + 1, x7, x25, x26, x27 => if x27 < x26 then (if 0 ≤ x27 then (if x27 < (x25.length : Int) then ((slices_Contains_int_int.f k x7 (rd x25 x27)).bind fun t173 => (if t173 = true then (impl_Defends.l0 k x7 x25 x26 (wrap64 (x27 + 1))) else (some false))) else (none)) else (none)) else (some true)
end
def impl_Defends.f (k : Nat) (a0_0 : Int) (l0_1 : List (List Int)) (l1 : List Int) (a2 : Int) : Option (Bool) := (impl_IsSet.f k a0_0 l0_1 l1).bind fun t164 => (if t164 = true then ((impl_isClaim.f a0_0 l0_1 a2).bind fun t165 => (impl_Defends.j0 k l1 a2 (!t165) a0_0 l0_1)) else (impl_Defends.j0 k l1 a2 true a0_0 l0_1))
theorem impl_Defends.mono_l : ∀ k, (∀ y0 y1 y2 y3 y4, LeO (impl_Defends.j0 k y0 y1 y2 y3 y4) (impl_Defends.j0 (k + 1) y0 y1 y2 y3 y4)) ∧ (∀ y0 y1 y2 y3, LeO (impl_Defends.l0 k y0 y1 y2 y3) (impl_Defends.l0 (k + 1) y0 y1 y2 y3))
 | 0 => ⟨fun _ _ _ _ _ r h => by simp [impl_Defends.j0] at h, fun _ _ _ _ r h => by simp [impl_Defends.l0] at h⟩
 | k + 1 => by
  obtain ⟨ih0, ih1⟩ := impl_Defends.mono_l k
  refine ⟨?_, ?_⟩
  ·intro y0 y1 y2 y3 y4
   unfold impl_Defends.j0
   repeat' with_reducible first | apply ih0 | apply ih1 | apply impl_AttackersOf.mono | apply impl_HitBy.mono | apply impl_IsSet.mono | apply slices_Contains_int_int.mono | apply ZJ | apply Zn | refine Zu ?_ ?_ | refine Zo ?_ (fun _ => ?_)
  ·intro y0 y1 y2 y3
   unfold impl_Defends.l0
   repeat' with_reducible first | apply ih0 | apply ih1 | apply impl_AttackersOf.mono | apply impl_HitBy.mono | apply impl_IsSet.mono | apply slices_Contains_int_int.mono | apply ZJ | apply Zn | refine Zu ?_ ?_ | refine Zo ?_ (fun _ => ?_)
theorem impl_Defends.mono : ∀ a0 a1 a2 a3 k, LeO (impl_Defends.f k a0 a1 a2 a3) (impl_Defends.f (k + 1) a0 a1 a2 a3) := by
 intro a0 a1 a2 a3 k
 obtain ⟨ih0, ih1⟩ := impl_Defends.mono_l k
 unfold impl_Defends.f
 repeat' with_reducible first | apply ih0 | apply ih1 | apply impl_AttackersOf.mono | apply impl_HitBy.mono | apply impl_IsSet.mono | apply slices_Contains_int_int.mono | apply ZJ | apply Zn | refine Zu ?_ ?_ | refine Zo ?_ (fun _ => ?_)
theorem impl_Defends.calls (k : Nat) (a0_0 : Int) (A0_1 : Option Addr) (c0_1 : Nat) (l0_1 : List (List Int)) (A1 : Option Addr) (c1 : Nat) (l1 : List Int) (a2 : Int) (r : Bool) (w : World) (hr0_1 : Kd.C (Kd.slice 3 (Kd.int .i64)) w A0_1 l0_1.length l0_1) (hc0_1 : l0_1.length ≤ c0_1) (hr1 : Kd.C (Kd.int .i64) w A1 l1.length l1) (hc1 : l1.length ≤ c1) (h : impl_Defends.f k a0_0 l0_1 l1 a2 = some r) :
  Calls Try.prog 115 #[.agg #[.int .i64 a0_0, .slice A0_1 l0_1.length c0_1], .slice A1 l1.length c1, .int .i64 a2] w fun e w' => e = .returned (.bool r) ∧ Below w.heap.size w w' := by
 have hu27 := Try.underlying27
 have HR0_1 := Aside0.mk hr0_1
 have HC0_1 := Aside0.mk hc0_1
 clear hr0_1 hc0_1
 have HR1 := Aside0.mk hr1
 have HC1 := Aside0.mk hc1
 clear hr1 hc1
 have HB := Aside0.mk (Below.refl w.heap.size w)
 have H := h
 unfold impl_Defends.f at H
 clear h
 have HC4 := Aside0.mk H
 clear H
 go_enter Try.func115, Try.ntmps115
 go_upto_region 1 with (first | ((with_reducible refine ZA (N := 3) rfl ?_); refine ZC ?hg (N := 3) ?hd (cs := #[.int .i64 a0_0, .slice A0_1 l0_1.length c0_1]) (t := 27) ?hr ?_; (case hd => rfl); (case hg => rfl); (case hr => first | (go_simp; done) | (go_simp; rfl)); intro gb163 hg w5 hbox hb; have BK163 := Aside0.mk (hbox); have GW163 := Aside0.mk ((hz_ hg : w.heap.size ≤ gb163)); have GE163 := Aside0.mk ((hz_ hg : w.heap.size ≤ gb163)); replace HB := Aside0.mk (Zh hB_ hb); clear hb hbox hg))
 (try simp only [Act.put, ZW, List.set_cons_zero, List.set_cons_succ])
 go_cut [19] (fun v19 wc => ∃ (kq : Nat) (x19_3 : Bool), v19 = .bool x19_3 ∧ Aside0 (impl_Defends.j0 kq l1 a2 x19_3 a0_0 l0_1 = some r) ∧ Aside0 (kq ≤ k) ∧ Aside0 (wc.heap[gb163]? = some (.cells #[.int .i64 a0_0, (.slice A0_1 l0_1.length c0_1)] 27 (0, 0))) ∧ Aside0 (Below w.heap.size w wc))
 case first =>
  have H := HC4.out
  clear HC4
  obtain ⟨t164, A6, H⟩ := bd_ H
  try dsimp only at H
  by_cases c7 : t164 = true
  rotate_left
  ·replace c7 := Bool.eq_false_iff.mpr c7
   subst c7
   rw [if_neg (show ¬ (false = true) by decide)] at H
   try dsimp only at H
   have H' := Aside0.mk H
   clear H
   obtain ⟨hcz13_0, hcz13_1, hfz13_0, hfz13_1⟩ := c2_ BK163.out
   go_wp2_with (first | ((with_reducible refine Zl (f := 90) rfl ?_); refine ZI (some 12) rfl rfl Try.func90 (by kernel_rfl) rfl #[.agg #[.int .i64 a0_0, .slice A0_1 l0_1.length c0_1], .slice A1 l1.length c1] rfl ar_ ?_; (with_reducible refine (impl_IsSet.calls k a0_0 _ _ l0_1 _ _ l1 false _ ?side1 ?side2 ?side3 ?side4 A6.out).mono ?_); (case side1 => exact cb_ HR0_1.out); (case side2 => exact HC0_1.out); (case side3 => exact cb_ HR1.out); (case side4 => exact HC1.out); rintro e w14 ⟨rfl, hb⟩; refine ⟨_, rfl, ?_⟩; replace BK163 := Aside0.mk (Zg (bq_ BK163.out) hb); replace HB := Aside0.mk (Zh hB_ hb); (try clear hb)))
   go_meet
   case rel => exact ⟨_, (true), sm_, H', ⟨by first | omega | exact Nat.le_refl _⟩, ⟨bk_ BK163.out⟩, ⟨hB_⟩⟩
  subst c7
  rw [if_pos rfl] at H
  try dsimp only at H
  obtain ⟨t165, A8, H⟩ := bd_ H
  try dsimp only at H
  have H' := Aside0.mk H
  clear H
  obtain ⟨hcz9_0, hcz9_1, hfz9_0, hfz9_1⟩ := c2_ BK163.out
  go_wp2_with (first | ((with_reducible refine Zl (f := 90) rfl ?_); refine ZI (some 12) rfl rfl Try.func90 (by kernel_rfl) rfl #[.agg #[.int .i64 a0_0, .slice A0_1 l0_1.length c0_1], .slice A1 l1.length c1] rfl ar_ ?_; (with_reducible refine (impl_IsSet.calls k a0_0 _ _ l0_1 _ _ l1 true _ ?side1 ?side2 ?side3 ?side4 A6.out).mono ?_); (case side1 => exact cb_ HR0_1.out); (case side2 => exact HC0_1.out); (case side3 => exact cb_ HR1.out); (case side4 => exact HC1.out); rintro e w10 ⟨rfl, hb⟩; refine ⟨_, rfl, ?_⟩; replace BK163 := Aside0.mk (Zg (bq_ BK163.out) hb); replace HB := Aside0.mk (Zh hB_ hb); (try clear hb); obtain ⟨hcz11_0, hcz11_1, hfz11_0, hfz11_1⟩ := c2_ BK163.out) | (go_at_call 61; (with_reducible refine (impl_isClaim.calls a0_0 _ _ l0_1 a2 t165 _ ?side1 ?side2 A8.out).mono ?_); (case side1 => exact cb_ HR0_1.out); (case side2 => exact HC0_1.out); rintro e w12 ⟨rfl, hb⟩; replace BK163 := Aside0.mk (Zg (bq_ BK163.out) hb); replace HB := Aside0.mk (Zh hB_ hb); (try clear hb)))
  go_meet
  case rel => exact ⟨_, (!t165), sm_, H', ⟨by first | omega | exact Nat.le_refl _⟩, ⟨bk_ BK163.out⟩, ⟨hB_⟩⟩
 case rest =>
  clear HC4
  try clear c1
  try clear p2
  try clear c7
  try clear c9
  try clear c11
  try clear hcz11_0
  try clear hcz11_1
  try clear hcz13_0
  try clear hcz13_1
  try clear hcz9_0
  try clear hcz9_1
  try clear hfz11_0
  try clear hfz11_1
  try clear hfz13_0
  try clear hfz13_1
  try clear hfz9_0
  try clear hfz9_1
  obtain ⟨kq, x19_3, rfl, HA, HJ3, BK163, HB⟩ := hcut
  cases kq with
  | zero => exact absurd HA.out (by simp [impl_Defends.j0])
  | succ kj3 =>
   have H := HA.out
   clear HA
   simp only [impl_Defends.j0] at H
   by_cases c15 : x19_3 = true
   ·subst c15
    rw [if_pos rfl] at H
    try dsimp only at H
    obtain rfl := Option.some.inj H
    go_wp2
    go_ret
    exact ⟨er_, hB_⟩
   replace c15 := Bool.eq_false_iff.mpr c15
   subst c15
   rw [if_neg (show ¬ (false = true) by decide)] at H
   try dsimp only at H
   obtain ⟨t166, A16, H⟩ := bd_ H
   try dsimp only at H
   obtain ⟨t169, A17, H⟩ := bd_ H
   try dsimp only at H
   have H' := Aside0.mk H
   clear H
   obtain ⟨hcz18_0, hcz18_1, hfz18_0, hfz18_1⟩ := c2_ BK163.out
   go_wp2_with (first | ((with_reducible refine Zl (f := 114) rfl ?_); refine ZI (some 22) rfl rfl Try.func114 (by kernel_rfl) rfl #[.agg #[.int .i64 a0_0, .slice A0_1 l0_1.length c0_1], .slice A1 l1.length c1] rfl ar_ ?_; (with_reducible refine (impl_HitBy.calls kj3 a0_0 _ _ l0_1 _ _ l1 t166 _ ?side1 ?side2 ?side3 ?side4 A16.out).mono ?_); (case side1 => exact cb_ HR0_1.out); (case side2 => exact HC0_1.out); (case side3 => exact cb_ HR1.out); (case side4 => exact HC1.out); rintro e w19 ⟨v167, rfl, ho0, hb⟩; refine ⟨_, rfl, ?_⟩; have HO168 := Aside0.mk (Kd.R_lower ho0 (Zm hB_)); replace BK163 := Aside0.mk (Zg (bq_ BK163.out) hb); replace HB := Aside0.mk (Zh hB_ hb); (try clear hb); (try clear ho0); obtain ⟨hcz20_0, hcz20_1, hfz20_0, hfz20_1⟩ := c2_ BK163.out) | ((with_reducible refine Zl (f := 40) rfl ?_); refine ZI (some 25) rfl rfl Try.func40 (by kernel_rfl) rfl #[.agg #[.int .i64 a0_0, .slice A0_1 l0_1.length c0_1], .int .i64 a2] rfl ar_ ?_; (with_reducible refine (impl_AttackersOf.calls kj3 a0_0 _ _ l0_1 a2 t169 _ ?side1 ?side2 A17.out).mono ?_); (case side1 => exact cb_ HR0_1.out); (case side2 => exact HC0_1.out); rintro e w21 ⟨v170, rfl, ho0, hb⟩; refine ⟨_, rfl, ?_⟩; have HO171 := Aside0.mk (Kd.R_lower (Kd.R_new' ho0 (Kd.R_lt (rR_ HO168.out))) (Zm hB_)); replace HO168 := Aside0.mk (Kd.R_elder' (rR_ HO168.out) (Kd.R_base ho0) hb); replace BK163 := Aside0.mk (Zg (bq_ BK163.out) hb); replace HB := Aside0.mk (Zh hB_ hb); (try clear hb); (try clear ho0); obtain ⟨Ao22, co22, eo22⟩ := Kd.R_slice HO171.out; subst eo22))
   go_loopg [27] kj3 (fun kq v27 w' => ∃ (x27_2 : Int), v27 = .int .i64 x27_2 ∧ Aside0 (impl_Defends.l0 kq t166 t169 (t169.length : Int) x27_2 = some r) ∧ Aside0 (kq ≤ kj3) ∧ Aside0 (Kd.R (Kd.int .i64) 3 w' w.heap.size (fun k_ => some k_ ≠ ((.slice Ao22 t169.length co22) : Value).ownBlock) v167 t166) ∧ Aside0 (Kd.R (Kd.int .i64) 3 w' w.heap.size (fun k_ => some k_ ≠ (v167 : Value).ownBlock) (.slice Ao22 t169.length co22) t169) ∧ Aside0 (Below w.heap.size w w'))
   case atStart => exact ⟨(0), sm_, H', ⟨Nat.le_refl _⟩, ⟨by (with_reducible repeat (first | apply ZP | apply ZO | apply ZU)); exact Zw HO168.out (fun _ hk => hk.2)⟩, ⟨by (with_reducible repeat (first | apply ZP | apply ZO | apply ZU)); exact Zw HO171.out (fun _ hk => hk.2)⟩, ⟨hB_⟩⟩
   case round =>
    clear H'
    try clear c1
    try clear p2
    try clear c4
    try clear c7
    try clear c9
    try clear c11
    try clear c15
    try clear hcz11_0
    try clear hcz11_1
    try clear hcz13_0
    try clear hcz13_1
    try clear hcz18_0
    try clear hcz18_1
    try clear hcz20_0
    try clear hcz20_1
    try clear hcz9_0
    try clear hcz9_1
    try clear hfz11_0
    try clear hfz11_1
    try clear hfz13_0
    try clear hfz13_1
    try clear hfz18_0
    try clear hfz18_1
    try clear hfz20_0
    try clear hfz20_1
    try clear hfz9_0
    try clear hfz9_1
    try clear p2
    obtain ⟨x27_2, rfl, HA, HK2, HO_7, HO_25, HB⟩ := hrel
    cases gk with
    | zero => exact absurd HA.out (by simp [impl_Defends.l0])
    | succ k2 =>
     have H := HA.out
     clear HA
     simp only [impl_Defends.l0] at H
     by_cases c23 : x27_2 < (t169.length : Int)
     rotate_left
     ·rw [if_neg c23] at H
      have c23b0 : decide (x27_2 < (t169.length : Int)) = false := decide_eq_false c23
      clear c23
      obtain rfl := Option.some.inj H
      go_wp2
      go_ret
      exact ⟨er_, hB_⟩
     rw [if_pos c23] at H
     have c23b0 : decide (x27_2 < (t169.length : Int)) = true := decide_eq_true c23
     clear c23
     by_cases c24 : 0 ≤ x27_2
     rotate_left
     ·rw [if_neg c24] at H
      exact absurd H (by simp)
     rw [if_pos c24] at H
     have c24b0 : decide (0 ≤ x27_2) = true := decide_eq_true c24
     clear c24
     by_cases c25 : x27_2 < (t169.length : Int)
     rotate_left
     ·rw [if_neg c25] at H
      exact absurd H (by simp)
     rw [if_pos c25] at H
     have c25b0 : decide (x27_2 < (t169.length : Int)) = true := decide_eq_true c25
     clear c25
     obtain ⟨t173, A26, H⟩ := bd_ H
     try dsimp only at H
     by_cases c27 : t173 = true
     ·subst c27
      rw [if_pos rfl] at H
      try dsimp only at H
      have H' := Aside0.mk H
      clear H
      have p172 : 0 ≤ (x27_2 : Int) := of_decide_eq_true as_
      have q172 : x27_2 < (t169.length : Int) := of_decide_eq_true as_
      obtain ⟨ad172, e172, hx172_0⟩ := Zx (ZF HO_25.out).2.2 x27_2 p172 q172
      cases e172
      replace p172 := eq_true p172
      replace q172 := eq_true q172
      obtain ⟨Ao28, co28, eo28⟩ := Kd.R_slice HO_7.out
      subst eo28
      go_wp2_with (first | ((with_reducible refine Zl (f := 80) rfl ?_); refine ZI (some 33) rfl rfl Try.func80 (by kernel_rfl) rfl #[.slice Ao28 t166.length co28, .int .i64 (rd t169 x27_2)] rfl ar_ ?_; (with_reducible refine (slices_Contains_int_int.calls k2 _ _ t166 (rd t169 x27_2) true _ ?side1 ?side2 A26.out).mono ?_); (case side1 => exact sA_ (ZF HO_7.out).2.2); (case side2 => exact (ZF HO_7.out).2.1); rintro e w' ⟨rfl, ⟨nd, rfl⟩⟩; refine ⟨_, rfl, ?_⟩))
      go_roundg k2
      case measure => have := HJ3.out; have := HK2.out; omega
      case rel => exact ⟨(wrap64 (x27_2 + 1)), sm_, H', ⟨by have := HJ3.out; have := HK2.out; omega⟩, ⟨rR_ HO_7.out⟩, ⟨rR_ HO_25.out⟩, ⟨hB_⟩⟩
     replace c27 := Bool.eq_false_iff.mpr c27
     subst c27
     rw [if_neg (show ¬ (false = true) by decide)] at H
     try dsimp only at H
     obtain rfl := Option.some.inj H
     have p172 : 0 ≤ (x27_2 : Int) := of_decide_eq_true as_
     have q172 : x27_2 < (t169.length : Int) := of_decide_eq_true as_
     obtain ⟨ad172, e172, hx172_0⟩ := Zx (ZF HO_25.out).2.2 x27_2 p172 q172
     cases e172
     replace p172 := eq_true p172
     replace q172 := eq_true q172
     have n0_ : Aside0 (Kd.R (Kd.int .i64) 3 wr w.heap.size (fun _ => True) v167 t166) := ⟨by (with_reducible repeat (first | apply ZP | apply ZO | apply ZU)); exact Zw HO_7.out (fun _ hk => trivial)⟩
     clear HO_7
     have HO_7 := n0_
     clear n0_
     (try clear HO_25)
     obtain ⟨Ao29, co29, eo29⟩ := Kd.R_slice HO_7.out
     subst eo29
     go_wp2_with (first | ((with_reducible refine Zl (f := 80) rfl ?_); refine ZI (some 33) rfl rfl Try.func80 (by kernel_rfl) rfl #[.slice Ao29 t166.length co29, .int .i64 (rd t169 x27_2)] rfl ar_ ?_; (with_reducible refine (slices_Contains_int_int.calls k2 _ _ t166 (rd t169 x27_2) false _ ?side1 ?side2 A26.out).mono ?_); (case side1 => exact sA_ (ZF HO_7.out).2.2); (case side2 => exact (ZF HO_7.out).2.1); rintro e w' ⟨rfl, ⟨nd, rfl⟩⟩; refine ⟨_, rfl, ?_⟩))
     go_ret
     exact ⟨er_, hB_⟩

end Go.Proofs.Ytdlobolnajcfnaa.PFnDisputes
