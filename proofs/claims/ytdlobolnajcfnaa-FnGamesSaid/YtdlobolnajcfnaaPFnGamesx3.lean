-- Written by a program of this session (hooks of mine on the print): Lean checks it.
import Derived.Test.YtdlobolnajcfnaaPFnGamesx0
import Derived.Test.YtdlobolnajcfnaaPFnGamesx2
namespace Go.Proofs.Ytdlobolnajcfnaa.PFnGames
open Go.RowKit Go.Proofs.YtdlobolnajcfnaaW.PrintWords Go.Proofs.YtdlobolnajcfnaaW.PrintLast Go.Proofs.YtdlobolnajcfnaaW.PrintMore
attribute [local go_sem] max2_int min2_int max_two min_two max_three min_three max_four min_four   -- for this text's walks alone
set_option linter.unusedVariables false
set_option linter.unusedSimpArgs false

/-! ### impl_AttackersOf: function 40 -/
def impl_AttackersOf.l0 : Nat → Int → List Int → List (List Int) → Int → Int → Option (List Int)
 | 0, _, _, _, _, _ => none
 | k + 1, x1, x5, x14, x15, x16 => if x16 < x15 then (if 0 ≤ x16 then (if x16 < (x14.length : Int) then (if 1 < ((rd_L1 x14 x16).length : Int) then (if (rd (rd_L1 x14 x16) 1) = x1 then (if 0 < ((rd_L1 x14 x16).length : Int) then (if x5.length < 17592186044416 then (impl_AttackersOf.l0 k x1 (x5 ++ [rd (rd_L1 x14 x16) 0]) x14 x15 (wrap64 (x16 + 1))) else (none)) else (none)) else (impl_AttackersOf.l0 k x1 x5 x14 x15 (wrap64 (x16 + 1)))) else (none)) else (none)) else (none)) else (some x5)
def impl_AttackersOf.f (k : Nat) (a0_0 : Int) (l0_1 : List (List Int)) (a1 : Int) : Option (List Int) := (some (([] : List Int) : List Int)).bind fun y118 => ((impl_IsGraph.f k a0_0 l0_1).bind fun t121 => (if t121 = true then (impl_AttackersOf.l0 k a1 y118 l0_1 (l0_1.length : Int) 0) else (some y118)))
theorem impl_AttackersOf.mono_l : ∀ k, (∀ y0 y1 y2 y3 y4, LeO (impl_AttackersOf.l0 k y0 y1 y2 y3 y4) (impl_AttackersOf.l0 (k + 1) y0 y1 y2 y3 y4))
 | 0 => fun _ _ _ _ _ r h => by simp [impl_AttackersOf.l0] at h
 | k + 1 => by
  have ih0 := impl_AttackersOf.mono_l k
  ·intro y0 y1 y2 y3 y4
   unfold impl_AttackersOf.l0
   repeat' first
   | (with_reducible exact ih0 _ _ _ _ _)
   | (with_reducible exact impl_IsGraph.mono _ _ _)
   | (with_reducible exact ZJ _)
   | (with_reducible exact Zn _)
   | (with_reducible refine Zt ?_ ?_)
   | (with_reducible refine Zo ?_ (fun _ => ?_))
   | exact ih0 _ _ _ _ _
   | exact impl_IsGraph.mono _ _ _
   | exact Zn _
   | refine Zt ?_ ?_
   | refine Zo ?_ (fun _ => ?_)
theorem impl_AttackersOf.mono : ∀ a0 a1 a2 k, LeO (impl_AttackersOf.f k a0 a1 a2) (impl_AttackersOf.f (k + 1) a0 a1 a2) := by
 intro a0 a1 a2 k
 have ih0 := impl_AttackersOf.mono_l k
 unfold impl_AttackersOf.f
 repeat' first
   | (with_reducible exact ih0 _ _ _ _ _)
   | (with_reducible exact impl_IsGraph.mono _ _ _)
   | (with_reducible exact ZJ _)
   | (with_reducible exact Zn _)
   | (with_reducible refine Zt ?_ ?_)
   | (with_reducible refine Zo ?_ (fun _ => ?_))
   | exact ih0 _ _ _ _ _
   | exact impl_IsGraph.mono _ _ _
   | exact Zn _
   | refine Zt ?_ ?_
   | refine Zo ?_ (fun _ => ?_)
set_option maxHeartbeats 8000000 in
set_option maxRecDepth 100000 in
theorem impl_AttackersOf.calls (k : Nat) (a0_0 : Int) (A0_1 : Option Addr) (c0_1 : Nat) (l0_1 : List (List Int)) (a1 : Int) (r : List Int) (w : World) (hr0_1 : Kd.C (Kd.slice 3 (Kd.int .i64)) w A0_1 l0_1.length l0_1) (hc0_1 : l0_1.length ≤ c0_1) (h : impl_AttackersOf.f k a0_0 l0_1 a1 = some r) :
  Calls Try.prog 40 #[.agg #[.int .i64 a0_0, .slice A0_1 l0_1.length c0_1], .int .i64 a1] w fun e w' => ∃ v0_ : Value, e = .returned (v0_) ∧ Kd.R (Kd.int .i64) 3 w' w.heap.size (fun _ => True) v0_ r ∧ Below w.heap.size w w' := by
 have hu27 := Try.underlying27
 have HR0_1 := Aside0.mk hr0_1
 have HC0_1 := Aside0.mk hc0_1
 clear hr0_1 hc0_1
 have HB := Aside0.mk (Below.refl w.heap.size w)
 have H : ((some (([] : List Int) : List Int)).bind fun y118 => ((impl_IsGraph.f k a0_0 l0_1).bind fun t121 => (if t121 = true then (impl_AttackersOf.l0 k a1 y118 l0_1 (l0_1.length : Int) 0) else (some y118)))) = some r := h
 clear h
 obtain ⟨y118, hy118⟩ : ∃ y_ : List Int, y_ = (([] : List Int)) := ⟨_, rfl⟩
 replace H : ((impl_IsGraph.f k a0_0 l0_1).bind fun t121 => (if t121 = true then (impl_AttackersOf.l0 k a1 y118 l0_1 (l0_1.length : Int) 0) else (some y118))) = some r := hy_ hy118 H
 have Ny118 := Aside0.mk hy118
 clear hy118
 replace H := Option.bind_eq_some_iff.mp H
 obtain ⟨t121, A30, H⟩ := H
 replace H : (if t121 = true then (impl_AttackersOf.l0 k a1 y118 l0_1 (l0_1.length : Int) 0) else (some y118)) = some r := H
 have A3 := Aside0.mk A30
 clear A30
 by_cases c4 : t121 = true
 ·subst c4
  have H1 : (impl_AttackersOf.l0 k a1 y118 l0_1 (l0_1.length : Int) 0) = some r := by rw [if_pos rfl] at H; exact H
  clear H
  have H := H1
  clear H1
  have H' := Aside0.mk H
  clear H
  go_enter Try.func40, Try.ntmps40
  go_wp2_with (first | ((with_reducible refine ZD (N := 2) rfl ?_); refine ZH ?hg (N := 2) ?hd (cs := #[.int .i64 a0_0, .slice A0_1 l0_1.length c0_1]) (t := 27) ?hr ?_; (case hd => rfl); (case hg => rfl); (case hr => first | (go_simp; done) | (go_simp; rfl)); intro gb117 hg w5 hbox hb; have BK117 := Aside0.mk (hbox); have GW117 := Aside0.mk ((hz_ hg : w.heap.size ≤ gb117)); have GE117 := Aside0.mk ((hz_ hg : w.heap.size ≤ gb117)); replace HB := Aside0.mk (Ze hB_ hb); clear hb hbox hg) | ((with_reducible refine ZD (N := 8) rfl ?_); refine Kd.R_lit (Kd.int .i64) _ 3 ?hg (N := 8) ?hd (xs := ([] : List Int)) (inner := []) (ok := fun _ => True) (okp := fun _ => True) ?hr ?hp (fun _ hk => hk) trivial (Below.refl _ _) (Nat.le_refl _) (by simp) ?_; (case hd => rfl); (case hg => rfl); (case hr => first | (go_simp; done) | (go_simp; rfl)); (case hp => exact (Reps.none _ _)); intro v119 w6 ho7 hb hg_ hnew_; clear hg_ hnew_; (first | rw [← Ny118.out] at ho7 | (simp only [Int.reduceToNat] at ho7; rw [← Ny118.out] at ho7)); have HO120 := Aside0.mk (ZI ho7 (Zl hB_)); replace BK117 := Aside0.mk (Zc (g := gb117) (o := .cells #[.int .i64 a0_0, .slice A0_1 l0_1.length c0_1] 27 (0, 0)) (bk_ BK117.out) hb); replace HB := Aside0.mk (Ze hB_ hb); clear hb ho7; have hcz8_0 : w6.cell? ⟨gb117, 0, none⟩ = some (.int .i64 a0_0) := (Za BK117.out 0).trans rfl; have hcz8_1 : w6.cell? ⟨gb117, 1, none⟩ = some (.slice A0_1 l0_1.length c0_1) := (Za BK117.out 1).trans rfl; have hfz8_0 := Zb BK117.out 0; have hfz8_1 := Zb BK117.out 1) | ((with_reducible refine Zj (f := 24) rfl ?_); refine ZE (some 10) rfl rfl Try.func24 (by kernel_rfl) rfl #[.agg #[.int .i64 a0_0, .slice A0_1 l0_1.length c0_1]] rfl ar_ ?_; (with_reducible refine (impl_IsGraph.calls k a0_0 _ _ l0_1 true _ ?side1 ?side2 A3.out).mono ?_); (case side1 => exact cb_ HR0_1.out); (case side2 => exact HC0_1.out); rintro e w9 ⟨rfl, hb⟩; refine ⟨_, rfl, ?_⟩; replace HO120 := Aside0.mk (ZN (rR_ HO120.out) hb); replace BK117 := Aside0.mk (Zc (g := gb117) (o := .cells #[.int .i64 a0_0, .slice A0_1 l0_1.length c0_1] 27 (0, 0)) (bk_ BK117.out) hb); replace HB := Aside0.mk (Ze hB_ hb); (try clear hb); (try clear hb2); (try clear hk); (try clear hi); have hcz10_0 : w9.cell? ⟨gb117, 0, none⟩ = some (.int .i64 a0_0) := (Za BK117.out 0).trans rfl; have hcz10_1 : w9.cell? ⟨gb117, 1, none⟩ = some (.slice A0_1 l0_1.length c0_1) := (Za BK117.out 1).trans rfl; have hfz10_0 := Zb BK117.out 0; have hfz10_1 := Zb BK117.out 1))
  go_loopg [5, 16] k (fun kq v5 v16 w' => ∃ (x5_1 : List Int) (x16_1 : Int), v16 = .int .i64 x16_1 ∧ Aside0 (impl_AttackersOf.l0 kq a1 x5_1 l0_1 (l0_1.length : Int) x16_1 = some r) ∧ Aside0 (kq ≤ k) ∧ Aside0 (Kd.R (Kd.int .i64) 3 w' w.heap.size (fun _ => True) v5 x5_1) ∧ Aside0 (w'.heap[gb117]? = some (.cells #[.int .i64 a0_0, (.slice A0_1 l0_1.length c0_1)] 27 (0, 0))) ∧ Aside0 (Below w.heap.size w w'))
  case atStart => exact ⟨(y118), (0), sm_, H', ⟨Nat.le_refl _⟩, ⟨rR_ HO120.out⟩, ⟨bk_ BK117.out⟩, ⟨hB_⟩⟩
  case round =>
   clear H'
   try clear c2
   try clear p2
   try clear c4
   try clear hcz10_0
   try clear hcz10_1
   try clear hcz8_0
   try clear hcz8_1
   try clear hfz10_0
   try clear hfz10_1
   try clear hfz8_0
   try clear hfz8_1
   obtain ⟨x5_1, x16_1, rfl, HA, HK1, HO_5, BK117, HB⟩ := hrel
   cases gk with
   | zero => exact absurd HA.out (by simp [impl_AttackersOf.l0])
   | succ k1 =>
    have H := HA.out
    clear HA
    simp only [impl_AttackersOf.l0] at H
    by_cases c11 : x16_1 < (l0_1.length : Int)
    ·rw [if_pos c11] at H
     have c11b0 : decide (x16_1 < (l0_1.length : Int)) = true := decide_eq_true c11
     clear c11
     by_cases c12 : 0 ≤ x16_1
     ·rw [if_pos c12] at H
      have c12b0 : decide (0 ≤ x16_1) = true := decide_eq_true c12
      clear c12
      by_cases c13 : x16_1 < (l0_1.length : Int)
      ·rw [if_pos c13] at H
       have c13b0 : decide (x16_1 < (l0_1.length : Int)) = true := decide_eq_true c13
       clear c13
       by_cases c14 : 1 < ((rd_L1 l0_1 x16_1).length : Int)
       ·rw [if_pos c14] at H
        have c14b0 : decide (1 < ((rd_L1 l0_1 x16_1).length : Int)) = true := decide_eq_true c14
        have c14b1 : decide (1 < (rd_L1 l0_1 x16_1).length) = true := decide_eq_true (by omega)
        clear c14
        by_cases c15 : (rd (rd_L1 l0_1 x16_1) 1) = a1
        ·rw [if_pos c15] at H
         have c15b0 : ((rd (rd_L1 l0_1 x16_1) 1) == a1) = true := beq_iff_eq.mpr c15
         have c15b1 : ((rd (rd_L1 l0_1 x16_1) 1) != a1) = false := bne_eq_false_iff_eq.mpr c15
         clear c15
         by_cases c16 : 0 < ((rd_L1 l0_1 x16_1).length : Int)
         ·rw [if_pos c16] at H
          have c16b0 : decide (0 < ((rd_L1 l0_1 x16_1).length : Int)) = true := decide_eq_true c16
          have c16b1 : decide (0 < (rd_L1 l0_1 x16_1).length) = true := decide_eq_true (by omega)
          clear c16
          by_cases c17 : x5_1.length < 17592186044416
          ·rw [if_pos c17] at H
           have LMc17 := Aside0.mk c17
           clear c17
           obtain ⟨y125, hy125⟩ : ∃ y_ : List Int, y_ = (x5_1 ++ [rd (rd_L1 l0_1 x16_1) 0]) := ⟨_, rfl⟩
           replace H : (impl_AttackersOf.l0 k1 a1 y125 l0_1 (l0_1.length : Int) (wrap64 (x16_1 + 1))) = some r := hy_ hy125 H
           have Ny125 := Aside0.mk hy125
           clear hy125
           have H' := Aside0.mk H
           clear H
           have p122 : 0 ≤ (x16_1 : Int) := of_decide_eq_true as_
           have q122 : x16_1 < (l0_1.length : Int) := of_decide_eq_true as_
           obtain ⟨ad122, A122_0, c122_0, e122, hx122_0, hl122_0, hi122_0⟩ := at_L1 HR0_1.out x16_1 p122 q122
           cases e122
           replace hx122_0 := (HB.out.cell (World.block_lt_of_cell? w _ hx122_0)).trans hx122_0
           have HR122_0 := Aside0.mk hi122_0
           have HC122_0 := Aside0.mk hl122_0
           clear hi122_0 hl122_0
           replace p122 := eq_true p122
           replace q122 := eq_true q122
           have p123 : 0 ≤ (1 : Int) := (by omega)
           have q123 : 1 < ((rd_L1 l0_1 x16_1).length : Int) := of_decide_eq_true as_
           obtain ⟨ad123, e123, hx123_0⟩ := Zv HR122_0.out 1 p123 q123
           cases e123
           (try simp only [show (1 : Int).toNat = 1 from rfl, Nat.reduceMul, Nat.reduceEqDiff, Go.Addr.add, ↓reduceIte] at hx123_0)
           have qi123 : (1 < (rd_L1 l0_1 x16_1).length) = True := eq_true (by omega)
           (try rw [show ((1 : Int)).toNat = 1 from rfl] at hx123_0)
           replace hx123_0 := (HB.out.cell (World.block_lt_of_cell? w _ hx123_0)).trans hx123_0
           replace p123 := eq_true p123
           replace q123 := eq_true q123
           have p124 : 0 ≤ (0 : Int) := (by omega)
           have q124 : 0 < ((rd_L1 l0_1 x16_1).length : Int) := of_decide_eq_true as_
           obtain ⟨ad124, e124, hx124_0⟩ := Zv HR122_0.out 0 p124 q124
           obtain rfl : ad123 = ad124 := (by injection e124)
           have qi124 : (0 < (rd_L1 l0_1 x16_1).length) = True := eq_true (by omega)
           (try rw [show ((0 : Int)).toNat = 0 from rfl] at hx124_0)
           (try rw [Addr.add_zero'] at hx124_0)
           replace hx124_0 := (HB.out.cell (World.block_lt_of_cell? w _ hx124_0)).trans hx124_0
           replace p124 := eq_true p124
           replace q124 := eq_true q124
           go_wp2_with (first | ((with_reducible refine gate_builtin (b := .append) (xs := #[.tmp 25, .tmp 29]) rfl ?_); at_builtin; refine Kd.R_append (Kd.int .i64) (w0 := w) w.heap.size rfl (.tmp 25) (.tmp 29) 31 3 (.int .i64 0) 8 rfl Try.underlying31 info3 rfl (by decide) (by omega) u5 x5_1 (rd (rd_L1 l0_1 x16_1) 0) [.int .i64 (rd (rd_L1 l0_1 x16_1) 0)] (fun _ => True) (fun _ => False) rfl rfl ?aP (fun _ hk => hk.elim) ?aF ?aO ?aB ?aS ?aL ?_; (case aP => exact rfl); (case aB => exact hB_); (case aF => exact (fun _ _ => trivial)); (case aO => exact (rR_ HO_5.out)); (case aS => exact (Zl hB_)); (case aL => have := LMc17.out; omega); intro v126 w18 ho hb hg hat; rw [← Ny125.out] at ho; have n0_ := Aside0.mk (ZO (g := gb117) (o := .cells #[.int .i64 a0_0, .slice (some ad122) l0_1.length c0_1] 27 (0, 0)) (bk_ BK117.out) hg (Kd.R_ne HO_5.out BK117.out (by decide))); have n1_ := Aside0.mk (hb); have n2_ := Aside0.mk (ho); clear BK117; clear HB; clear HO_5; have BK117 := n0_; have HB := n1_; have HO127 := n2_; clear n0_ n1_ n2_; clear ho hb hg hat))
           go_roundg k1
           case measure => have := HK1.out; omega
           case rel => exact ⟨(y125), (wrap64 (x16_1 + 1)), sm_, H', ⟨by have := HK1.out; omega⟩, ⟨rR_ HO127.out⟩, ⟨bk_ BK117.out⟩, ⟨hB_⟩⟩
          ·rw [if_neg c17] at H
           exact absurd H (by simp)
         ·rw [if_neg c16] at H
          exact absurd H (by simp)
        ·rw [if_neg c15] at H
         have c15b0 : ((rd (rd_L1 l0_1 x16_1) 1) == a1) = false := beq_eq_false_iff_ne.mpr c15
         have c15b1 : ((rd (rd_L1 l0_1 x16_1) 1) != a1) = true := bne_iff_ne.mpr c15
         have H' := Aside0.mk H
         clear H
         have p122 : 0 ≤ (x16_1 : Int) := of_decide_eq_true as_
         have q122 : x16_1 < (l0_1.length : Int) := of_decide_eq_true as_
         obtain ⟨ad122, A122_0, c122_0, e122, hx122_0, hl122_0, hi122_0⟩ := at_L1 HR0_1.out x16_1 p122 q122
         cases e122
         replace hx122_0 := (HB.out.cell (World.block_lt_of_cell? w _ hx122_0)).trans hx122_0
         have HR122_0 := Aside0.mk hi122_0
         have HC122_0 := Aside0.mk hl122_0
         clear hi122_0 hl122_0
         replace p122 := eq_true p122
         replace q122 := eq_true q122
         have p123 : 0 ≤ (1 : Int) := (by omega)
         have q123 : 1 < ((rd_L1 l0_1 x16_1).length : Int) := of_decide_eq_true as_
         obtain ⟨ad123, e123, hx123_0⟩ := Zv HR122_0.out 1 p123 q123
         cases e123
         (try simp only [show (1 : Int).toNat = 1 from rfl, Nat.reduceMul, Nat.reduceEqDiff, Go.Addr.add, ↓reduceIte] at hx123_0)
         have qi123 : (1 < (rd_L1 l0_1 x16_1).length) = True := eq_true (by omega)
         (try rw [show ((1 : Int)).toNat = 1 from rfl] at hx123_0)
         replace hx123_0 := (HB.out.cell (World.block_lt_of_cell? w _ hx123_0)).trans hx123_0
         replace p123 := eq_true p123
         replace q123 := eq_true q123
         go_wp2
         go_roundg k1
         case measure => have := HK1.out; omega
         case rel => exact ⟨(x5_1), (wrap64 (x16_1 + 1)), sm_, H', ⟨by have := HK1.out; omega⟩, ⟨rR_ HO_5.out⟩, ⟨bk_ BK117.out⟩, ⟨hB_⟩⟩
       ·rw [if_neg c14] at H
        exact absurd H (by simp)
      ·rw [if_neg c13] at H
       exact absurd H (by simp)
     ·rw [if_neg c12] at H
      exact absurd H (by simp)
    ·rw [if_neg c11] at H
     have c11b0 : decide (x16_1 < (l0_1.length : Int)) = false := decide_eq_false c11
     clear c11
     obtain rfl := Option.some.inj H
     go_wp2
     go_ret
     exact ⟨_, er_, rR_ HO_5.out, hB_⟩
 ·replace c4 := Bool.eq_false_iff.mpr c4
  subst c4
  have H1 : (some y118) = some r := by rw [if_neg (show ¬ (false = true) by decide)] at H; exact H
  clear H
  have H := H1
  clear H1
  obtain rfl := Option.some.inj H
  go_enter Try.func40, Try.ntmps40
  go_wp2_with (first | ((with_reducible refine ZD (N := 2) rfl ?_); refine ZH ?hg (N := 2) ?hd (cs := #[.int .i64 a0_0, .slice A0_1 l0_1.length c0_1]) (t := 27) ?hr ?_; (case hd => rfl); (case hg => rfl); (case hr => first | (go_simp; done) | (go_simp; rfl)); intro gb117 hg w19 hbox hb; have BK117 := Aside0.mk (hbox); have GW117 := Aside0.mk ((hz_ hg : w.heap.size ≤ gb117)); have GE117 := Aside0.mk ((hz_ hg : w.heap.size ≤ gb117)); replace HB := Aside0.mk (Ze hB_ hb); clear hb hbox hg) | ((with_reducible refine ZD (N := 8) rfl ?_); refine Kd.R_lit (Kd.int .i64) _ 3 ?hg (N := 8) ?hd (xs := ([] : List Int)) (inner := []) (ok := fun _ => True) (okp := fun _ => True) ?hr ?hp (fun _ hk => hk) trivial (Below.refl _ _) (Nat.le_refl _) (by simp) ?_; (case hd => rfl); (case hg => rfl); (case hr => first | (go_simp; done) | (go_simp; rfl)); (case hp => exact (Reps.none _ _)); intro v119 w20 ho21 hb hg_ hnew_; clear hg_ hnew_; (first | rw [← Ny118.out] at ho21 | (simp only [Int.reduceToNat] at ho21; rw [← Ny118.out] at ho21)); have HO120 := Aside0.mk (ZI ho21 (Zl hB_)); replace BK117 := Aside0.mk (Zc (g := gb117) (o := .cells #[.int .i64 a0_0, .slice A0_1 l0_1.length c0_1] 27 (0, 0)) (bk_ BK117.out) hb); replace HB := Aside0.mk (Ze hB_ hb); clear hb ho21; have hcz22_0 : w20.cell? ⟨gb117, 0, none⟩ = some (.int .i64 a0_0) := (Za BK117.out 0).trans rfl; have hcz22_1 : w20.cell? ⟨gb117, 1, none⟩ = some (.slice A0_1 l0_1.length c0_1) := (Za BK117.out 1).trans rfl; have hfz22_0 := Zb BK117.out 0; have hfz22_1 := Zb BK117.out 1) | ((with_reducible refine Zj (f := 24) rfl ?_); refine ZE (some 10) rfl rfl Try.func24 (by kernel_rfl) rfl #[.agg #[.int .i64 a0_0, .slice A0_1 l0_1.length c0_1]] rfl ar_ ?_; (with_reducible refine (impl_IsGraph.calls k a0_0 _ _ l0_1 false _ ?side1 ?side2 A3.out).mono ?_); (case side1 => exact cb_ HR0_1.out); (case side2 => exact HC0_1.out); rintro e w23 ⟨rfl, hb⟩; refine ⟨_, rfl, ?_⟩; replace HO120 := Aside0.mk (ZN (rR_ HO120.out) hb); replace BK117 := Aside0.mk (Zc (g := gb117) (o := .cells #[.int .i64 a0_0, .slice A0_1 l0_1.length c0_1] 27 (0, 0)) (bk_ BK117.out) hb); replace HB := Aside0.mk (Ze hB_ hb); (try clear hb); (try clear hb2); (try clear hk); (try clear hi)))
  go_ret
  exact ⟨_, er_, rR_ HO120.out, hB_⟩

end Go.Proofs.Ytdlobolnajcfnaa.PFnGames
