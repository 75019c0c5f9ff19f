-- Written by a program of this session (hooks of mine on the print): Lean checks it.
import Derived.Test.YtdlobolnajcfnaaPFnPositionsx0
import Derived.Test.YtdlobolnajcfnaaPFnPositionsx1
namespace Go.Proofs.Ytdlobolnajcfnaa.PFnPositions
open Go.RowKit Go.Proofs.YtdlobolnajcfnaaW.PrintWords Go.Proofs.YtdlobolnajcfnaaW.PrintLast Go.Proofs.YtdlobolnajcfnaaW.PrintMore
attribute [local go_sem] max2_int min2_int max_two min_two max_three min_three max_four min_four   -- for this text's walks alone
set_option linter.unusedVariables false
set_option linter.unusedSimpArgs false

/-! ### spec_IsGraph: function 57 -/
mutual
def spec_IsGraph.l0 : Nat → Int → Int → List (List Int) → Option (Bool)
 | 0, _, _, _ => none
 | k + 1, x3, x118000, x118001 => if x3 < (x118001.length : Int) then (if 0 ≤ x3 then (if ((rd_L2 x118001 x3).length : Int) = 2 then (if 0 < ((rd_L2 x118001 x3).length : Int) then ((spec_l1In.f (rd (rd_L2 x118001 x3) 0) 0 (wrap64 (x118000 - 1))).bind fun t121 => (if t121 = true then (if 1 < ((rd_L2 x118001 x3).length : Int) then ((spec_l1In.f (rd (rd_L2 x118001 x3) 1) 0 (wrap64 (x118000 - 1))).bind fun t123 => (spec_IsGraph.j1 k x3 (rd_L2 x118001 x3) (!t123) x118000 x118001)) else (none)) else (spec_IsGraph.j1 k x3 (rd_L2 x118001 x3) true x118000 x118001))) else (none)) else (spec_IsGraph.j1 k x3 (rd_L2 x118001 x3) true x118000 x118001)) else (none)) else ((spec_l1In.f x118000 0 10).bind fun t118 => (some t118))
def spec_IsGraph.j1 : Nat → Int → List Int → Bool → Int → List (List Int) → Option (Bool)
 | 0, _, _, _, _, _ => none
 | k + 1, x3, x4, x40, x118000, x118001 => if x40 = true then (some false) else (if x3 > 0 then (if 0 ≤ (wrap64 (x3 - 1)) then (if (wrap64 (x3 - 1)) < (x118001.length : Int) then (if 0 < ((rd_L2 x118001 (wrap64 (x3 - 1))).length : Int) then (if 0 < (x4.length : Int) then (if (rd (rd_L2 x118001 (wrap64 (x3 - 1))) 0) > (rd x4 0) then (some false) else (if (rd (rd_L2 x118001 (wrap64 (x3 - 1))) 0) = (rd x4 0) then (if 1 < ((rd_L2 x118001 (wrap64 (x3 - 1))).length : Int) then (if 1 < (x4.length : Int) then (if (rd (rd_L2 x118001 (wrap64 (x3 - 1))) 1) ≥ (rd x4 1) then (some false) else (spec_IsGraph.l0 k (wrap64 (x3 + 1)) x118000 x118001)) else (none)) else (none)) else (spec_IsGraph.l0 k (wrap64 (x3 + 1)) x118000 x118001))) else (none)) else (none)) else (none)) else (none)) else (spec_IsGraph.l0 k (wrap64 (x3 + 1)) x118000 x118001))
end
def spec_IsGraph.f (k : Nat) (a0_0 : Int) (l0_1 : List (List Int)) : Option (Bool) := spec_IsGraph.l0 k 0 a0_0 l0_1
theorem spec_IsGraph.mono_l : ∀ k, (∀ y0 y1 y2, LeO (spec_IsGraph.l0 k y0 y1 y2) (spec_IsGraph.l0 (k + 1) y0 y1 y2)) ∧ (∀ y0 y1 y2 y3 y4, LeO (spec_IsGraph.j1 k y0 y1 y2 y3 y4) (spec_IsGraph.j1 (k + 1) y0 y1 y2 y3 y4))
 | 0 => ⟨fun _ _ _ r h => by simp [spec_IsGraph.l0] at h, fun _ _ _ _ _ r h => by simp [spec_IsGraph.j1] at h⟩
 | k + 1 => by
  obtain ⟨ih0, ih1⟩ := spec_IsGraph.mono_l k
  refine ⟨?_, ?_⟩
  ·intro y0 y1 y2
   unfold spec_IsGraph.l0
   repeat' with_reducible first | apply ih0 | apply ih1 | apply Zy | apply Zg | refine Zl ?_ ?_ | refine Zh ?_ (fun _ => ?_)
  ·intro y0 y1 y2 y3 y4
   unfold spec_IsGraph.j1
   repeat' with_reducible first | apply ih0 | apply ih1 | apply Zy | apply Zg | refine Zl ?_ ?_ | refine Zh ?_ (fun _ => ?_)
theorem spec_IsGraph.mono : ∀ a0 a1 k, LeO (spec_IsGraph.f k a0 a1) (spec_IsGraph.f (k + 1) a0 a1) := by
 intro a0 a1 k
 obtain ⟨ih0, ih1⟩ := spec_IsGraph.mono_l k
 unfold spec_IsGraph.f
 repeat' with_reducible first | apply ih0 | apply ih1 | apply Zy | apply Zg | refine Zl ?_ ?_ | refine Zh ?_ (fun _ => ?_)
set_option maxHeartbeats 8000000 in
set_option maxRecDepth 100000 in
theorem spec_IsGraph.calls (k : Nat) (a0_0 : Int) (A0_1 : Option Addr) (c0_1 : Nat) (l0_1 : List (List Int)) (r : Bool) (w : World) (hr0_1 : Kd.C (Kd.slice 3 (Kd.int .i64)) w A0_1 l0_1.length l0_1) (hc0_1 : l0_1.length ≤ c0_1) (h : spec_IsGraph.f k a0_0 l0_1 = some r) :
  Calls Try.prog 57 #[.agg #[.int .i64 a0_0, .slice A0_1 l0_1.length c0_1]] w fun e w' => e = .returned (.bool r) ∧ Below w.heap.size w w' := by
 have hu27 := Try.underlying27
 have HR0_1 := Aside0.mk hr0_1
 have HC0_1 := Aside0.mk hc0_1
 clear hr0_1 hc0_1
 have HB := Aside0.mk (Below.refl w.heap.size w)
 have H := h
 unfold spec_IsGraph.f at H
 clear h
 have H' := Aside0.mk H
 clear H
 go_enter Try.func57, Try.ntmps57
 go_wp2_with (first | ((with_reducible refine Zz (N := 1) rfl ?_); refine ZI ?hg (N := 1) ?hd (cs := #[.int .i64 a0_0, .slice A0_1 l0_1.length c0_1]) (t := 27) ?hr ?_; (case hd => rfl); (case hg => rfl); (case hr => first | (go_simp; done) | (go_simp; rfl)); intro gb117 hg w2 hbox hb; have BK117 := Aside0.mk (hbox); have GW117 := Aside0.mk ((hz_ hg : w.heap.size ≤ gb117)); have GE117 := Aside0.mk ((hz_ hg : w.heap.size ≤ gb117)); replace HB := Aside0.mk (Zc hB_ hb); clear hb hbox hg))
 repeat (go_quiet (first | ((with_reducible refine Zz (N := 1) rfl ?_); refine ZI ?hg (N := 1) ?hd (cs := #[.int .i64 a0_0, .slice A0_1 l0_1.length c0_1]) (t := 27) ?hr ?_; (case hd => rfl); (case hg => rfl); (case hr => first | (go_simp; done) | (go_simp; rfl)); intro gb117 hg w2 hbox hb; have BK117 := Aside0.mk (hbox); have GW117 := Aside0.mk ((hz_ hg : w.heap.size ≤ gb117)); have GE117 := Aside0.mk ((hz_ hg : w.heap.size ≤ gb117)); replace HB := Aside0.mk (Zc hB_ hb); clear hb hbox hg)); try go_wp2_with (first | ((with_reducible refine Zz (N := 1) rfl ?_); refine ZI ?hg (N := 1) ?hd (cs := #[.int .i64 a0_0, .slice A0_1 l0_1.length c0_1]) (t := 27) ?hr ?_; (case hd => rfl); (case hg => rfl); (case hr => first | (go_simp; done) | (go_simp; rfl)); intro gb117 hg w2 hbox hb; have BK117 := Aside0.mk (hbox); have GW117 := Aside0.mk ((hz_ hg : w.heap.size ≤ gb117)); have GE117 := Aside0.mk ((hz_ hg : w.heap.size ≤ gb117)); replace HB := Aside0.mk (Zc hB_ hb); clear hb hbox hg)))
 go_loopg [3] k (fun kq v3 w' => ∃ (x3_1 : Int), v3 = .int .i64 x3_1 ∧ Aside0 (spec_IsGraph.l0 kq x3_1 a0_0 l0_1 = some r) ∧ Aside0 (kq ≤ k) ∧ Aside0 (w'.heap[gb117]? = some (.cells #[.int .i64 a0_0, (.slice A0_1 l0_1.length c0_1)] 27 (0, 0))) ∧ Aside0 (Below w.heap.size w w'))
 case atStart => exact ⟨(0), sm_, H', ⟨Nat.le_refl _⟩, ⟨bk_ BK117.out⟩, ⟨hB_⟩⟩
 case round =>
  clear H'
  try clear p2
  obtain ⟨x3_1, rfl, HA, HK1, BK117, HB⟩ := hrel
  cases gk with
  | zero => exact absurd HA.out (by simp [spec_IsGraph.l0])
  | succ k1 =>
   have H := HA.out
   clear HA
   simp only [spec_IsGraph.l0] at H
   by_cases c3 : x3_1 < (l0_1.length : Int)
   rotate_left
   ·rw [if_neg c3] at H
    have c3b0 : decide (x3_1 < (l0_1.length : Int)) = false := decide_eq_false c3
    clear c3
    obtain ⟨t118, A31, H⟩ := bd_ H
    try dsimp only at H
    obtain rfl := Option.some.inj H
    obtain ⟨hcz32_0, hcz32_1, hfz32_0, hfz32_1⟩ := c2_ BK117.out
    go_wp2_with (first | (go_at_call 58; (with_reducible refine (spec_l1In.calls a0_0 0 10 t118 _ A31.out).mono ?_); rintro e w' ⟨rfl, ⟨nd, rfl⟩⟩; (try first | exact ⟨rfl, _, World.drewN_drewN _ _ _⟩ | exact ⟨rfl, _, Eq.trans (World.drewN_drewN _ _ _) (congrArg (World.drewN _) (Nat.add_assoc _ _ _))⟩)))
    repeat (go_quiet (first | (go_at_call 58; (with_reducible refine (spec_l1In.calls a0_0 0 10 t118 _ A31.out).mono ?_); rintro e w' ⟨rfl, ⟨nd, rfl⟩⟩; (try first | exact ⟨rfl, _, World.drewN_drewN _ _ _⟩ | exact ⟨rfl, _, Eq.trans (World.drewN_drewN _ _ _) (congrArg (World.drewN _) (Nat.add_assoc _ _ _))⟩))); try go_wp2_with (first | (go_at_call 58; (with_reducible refine (spec_l1In.calls a0_0 0 10 t118 _ A31.out).mono ?_); rintro e w' ⟨rfl, ⟨nd, rfl⟩⟩; (try first | exact ⟨rfl, _, World.drewN_drewN _ _ _⟩ | exact ⟨rfl, _, Eq.trans (World.drewN_drewN _ _ _) (congrArg (World.drewN _) (Nat.add_assoc _ _ _))⟩))))
    go_ret
    exact ⟨er_, hB_⟩
   rw [if_pos c3] at H
   have c3b0 : decide (x3_1 < (l0_1.length : Int)) = true := decide_eq_true c3
   clear c3
   by_cases c4 : 0 ≤ x3_1
   rotate_left
   ·rw [if_neg c4] at H
    exact absurd H (by simp)
   rw [if_pos c4] at H
   have c4b0 : decide (0 ≤ x3_1) = true := decide_eq_true c4
   clear c4
   have HC5 := Aside0.mk H
   clear H
   obtain ⟨hcz6_0, hcz6_1, hfz6_0, hfz6_1⟩ := c2_ BK117.out
   have p119 : 0 ≤ (x3_1 : Int) := of_decide_eq_true as_
   have q119 : x3_1 < (l0_1.length : Int) := of_decide_eq_true as_
   obtain ⟨ad119, A119_0, c119_0, e119, hx119_0, hl119_0, hi119_0⟩ := at_L2 HR0_1.out x3_1 p119 q119
   cases e119
   replace hx119_0 := (HB.out.cell (World.block_lt_of_cell? w _ hx119_0)).trans hx119_0
   have HR119_0 := Aside0.mk hi119_0
   have HC119_0 := Aside0.mk hl119_0
   clear hi119_0 hl119_0
   replace p119 := eq_true p119
   replace q119 := eq_true q119
   go_upto_region 5 with (fail)
   repeat (go_quiet (fail); go_upto_region 5 with (fail))
   go_cut [40] (fun v40 wc => ∃ (kq : Nat) (x40_4 : Bool), v40 = .bool x40_4 ∧ Aside0 (spec_IsGraph.j1 kq x3_1 (rd_L2 l0_1 x3_1) x40_4 a0_0 l0_1 = some r) ∧ Aside0 (kq ≤ k1) ∧ Aside0 (wc.heap[gb117]? = some (.cells #[.int .i64 a0_0, (.slice (some ad119) l0_1.length c0_1)] 27 (0, 0))) ∧ Aside0 (Below w.heap.size w wc))
   case first =>
    have H := HC5.out
    clear HC5
    by_cases c7 : ((rd_L2 l0_1 x3_1).length : Int) = 2
    rotate_left
    ·rw [if_neg c7] at H
     have c7b0 : (((rd_L2 l0_1 x3_1).length : Int) == 2) = false := beq_eq_false_iff_ne.mpr c7
     have c7b1 : (((rd_L2 l0_1 x3_1).length : Int) != 2) = true := bne_iff_ne.mpr c7
     (first | rw [c7b0] | (simp only [i64_w, i32_w]; rw [c7b0]) | skip)
     have H' := Aside0.mk H
     clear H
     go_wp2
     repeat (go_quiet (fail); try go_wp2)
     go_meet
     case rel => exact ⟨_, (true), sm_, H', ⟨by have := HK1.out; first | omega | exact Nat.le_refl _⟩, ⟨bk_ BK117.out⟩, ⟨hB_⟩⟩
    rw [if_pos c7] at H
    have c7b0 : (((rd_L2 l0_1 x3_1).length : Int) == 2) = true := beq_iff_eq.mpr c7
    have c7b1 : (((rd_L2 l0_1 x3_1).length : Int) != 2) = false := bne_eq_false_iff_eq.mpr c7
    clear c7
    (first | rw [c7b0] | (simp only [i64_w, i32_w]; rw [c7b0]) | skip)
    by_cases c8 : 0 < ((rd_L2 l0_1 x3_1).length : Int)
    rotate_left
    ·rw [if_neg c8] at H
     exact absurd H (by simp)
    rw [if_pos c8] at H
    have c8b0 : decide (0 < ((rd_L2 l0_1 x3_1).length : Int)) = true := decide_eq_true c8
    have c8b1 : decide (0 < (rd_L2 l0_1 x3_1).length) = true := decide_eq_true (by omega)
    clear c8
    obtain ⟨t121, A9, H⟩ := bd_ H
    try dsimp only at H
    by_cases c10 : t121 = true
    rotate_left
    ·replace c10 := Bool.eq_false_iff.mpr c10
     subst c10
     rw [if_neg (show ¬ (false = true) by decide)] at H
     try dsimp only at H
     have H' := Aside0.mk H
     clear H
     have p120 : 0 ≤ (0 : Int) := (by omega)
     have q120 : 0 < ((rd_L2 l0_1 x3_1).length : Int) := of_decide_eq_true as_
     obtain ⟨ad120, e120, hx120_0⟩ := Zo HR119_0.out 0 p120 q120
     cases e120
     have qi120 : (0 < (rd_L2 l0_1 x3_1).length) = True := eq_true (by omega)
     (try rw [show ((0 : Int)).toNat = 0 from rfl] at hx120_0)
     (try rw [Addr.add_zero'] at hx120_0)
     replace hx120_0 := (HB.out.cell (World.block_lt_of_cell? w _ hx120_0)).trans hx120_0
     replace p120 := eq_true p120
     replace q120 := eq_true q120
     obtain ⟨hcz14_0, hcz14_1, hfz14_0, hfz14_1⟩ := c2_ BK117.out
     go_wp2_with (first | (go_at_call 58; refine calls_of_args (args' := #[.int .i64 (rd (rd_L2 l0_1 x3_1) 0), .int .i64 0, .int .i64 (wrap64 (a0_0 - 1))]) ?harg ?_; (case harg => first | rfl | (simp only [i64_w, i32_w]; rfl) | (simp only [i64_w, i32_w]; done)); (with_reducible refine (spec_l1In.calls (rd (rd_L2 l0_1 x3_1) 0) 0 (wrap64 (a0_0 - 1)) false _ A9.out).mono ?_); rintro e w' ⟨rfl, ⟨nd, rfl⟩⟩; (try first | exact ⟨rfl, _, World.drewN_drewN _ _ _⟩ | exact ⟨rfl, _, Eq.trans (World.drewN_drewN _ _ _) (congrArg (World.drewN _) (Nat.add_assoc _ _ _))⟩)))
     repeat (go_quiet (first | (go_at_call 58; refine calls_of_args (args' := #[.int .i64 (rd (rd_L2 l0_1 x3_1) 0), .int .i64 0, .int .i64 (wrap64 (a0_0 - 1))]) ?harg ?_; (case harg => first | rfl | (simp only [i64_w, i32_w]; rfl) | (simp only [i64_w, i32_w]; done)); (with_reducible refine (spec_l1In.calls (rd (rd_L2 l0_1 x3_1) 0) 0 (wrap64 (a0_0 - 1)) false _ A9.out).mono ?_); rintro e w' ⟨rfl, ⟨nd, rfl⟩⟩; (try first | exact ⟨rfl, _, World.drewN_drewN _ _ _⟩ | exact ⟨rfl, _, Eq.trans (World.drewN_drewN _ _ _) (congrArg (World.drewN _) (Nat.add_assoc _ _ _))⟩))); try go_wp2_with (first | (go_at_call 58; refine calls_of_args (args' := #[.int .i64 (rd (rd_L2 l0_1 x3_1) 0), .int .i64 0, .int .i64 (wrap64 (a0_0 - 1))]) ?harg ?_; (case harg => first | rfl | (simp only [i64_w, i32_w]; rfl) | (simp only [i64_w, i32_w]; done)); (with_reducible refine (spec_l1In.calls (rd (rd_L2 l0_1 x3_1) 0) 0 (wrap64 (a0_0 - 1)) false _ A9.out).mono ?_); rintro e w' ⟨rfl, ⟨nd, rfl⟩⟩; (try first | exact ⟨rfl, _, World.drewN_drewN _ _ _⟩ | exact ⟨rfl, _, Eq.trans (World.drewN_drewN _ _ _) (congrArg (World.drewN _) (Nat.add_assoc _ _ _))⟩))))
     go_meet
     case rel => exact ⟨_, (true), sm_, H', ⟨by have := HK1.out; first | omega | exact Nat.le_refl _⟩, ⟨bk_ BK117.out⟩, ⟨hB_⟩⟩
    subst c10
    rw [if_pos rfl] at H
    try dsimp only at H
    by_cases c11 : 1 < ((rd_L2 l0_1 x3_1).length : Int)
    rotate_left
    ·rw [if_neg c11] at H
     exact absurd H (by simp)
    rw [if_pos c11] at H
    have c11b0 : decide (1 < ((rd_L2 l0_1 x3_1).length : Int)) = true := decide_eq_true c11
    have c11b1 : decide (1 < (rd_L2 l0_1 x3_1).length) = true := decide_eq_true (by omega)
    clear c11
    obtain ⟨t123, A12, H⟩ := bd_ H
    try dsimp only at H
    have H' := Aside0.mk H
    clear H
    have p120 : 0 ≤ (0 : Int) := (by omega)
    have q120 : 0 < ((rd_L2 l0_1 x3_1).length : Int) := of_decide_eq_true as_
    obtain ⟨ad120, e120, hx120_0⟩ := Zo HR119_0.out 0 p120 q120
    cases e120
    have qi120 : (0 < (rd_L2 l0_1 x3_1).length) = True := eq_true (by omega)
    (try rw [show ((0 : Int)).toNat = 0 from rfl] at hx120_0)
    (try rw [Addr.add_zero'] at hx120_0)
    replace hx120_0 := (HB.out.cell (World.block_lt_of_cell? w _ hx120_0)).trans hx120_0
    replace p120 := eq_true p120
    replace q120 := eq_true q120
    obtain ⟨hcz13_0, hcz13_1, hfz13_0, hfz13_1⟩ := c2_ BK117.out
    go_wp2_with (first | (go_at_call 58; refine calls_of_args (args' := #[.int .i64 (rd (rd_L2 l0_1 x3_1) 0), .int .i64 0, .int .i64 (wrap64 (a0_0 - 1))]) ?harg ?_; (case harg => first | rfl | (simp only [i64_w, i32_w]; rfl) | (simp only [i64_w, i32_w]; done)); (with_reducible refine (spec_l1In.calls (rd (rd_L2 l0_1 x3_1) 0) 0 (wrap64 (a0_0 - 1)) true _ A9.out).mono ?_); rintro e w' ⟨rfl, ⟨nd, rfl⟩⟩; (try first | exact ⟨rfl, _, World.drewN_drewN _ _ _⟩ | exact ⟨rfl, _, Eq.trans (World.drewN_drewN _ _ _) (congrArg (World.drewN _) (Nat.add_assoc _ _ _))⟩); have p122 : 0 ≤ (1 : Int) := (by omega); have q122 : 1 < ((rd_L2 l0_1 x3_1).length : Int) := of_decide_eq_true as_; obtain ⟨ad122, e122, hx122_0⟩ := Zo HR119_0.out 1 p122 q122; obtain rfl : ad120 = ad122 := (by injection e122); (try simp only [show (1 : Int).toNat = 1 from rfl, Nat.reduceMul, Nat.reduceEqDiff, Go.Addr.add, ↓reduceIte] at hx122_0); have qi122 : (1 < (rd_L2 l0_1 x3_1).length) = True := eq_true (by omega); (try rw [show ((1 : Int)).toNat = 1 from rfl] at hx122_0); replace hx122_0 := (HB.out.cell (World.block_lt_of_cell? w _ hx122_0)).trans hx122_0; replace p122 := eq_true p122; replace q122 := eq_true q122) | (go_at_call 58; refine calls_of_args (args' := #[.int .i64 (rd (rd_L2 l0_1 x3_1) 1), .int .i64 0, .int .i64 (wrap64 (a0_0 - 1))]) ?harg ?_; (case harg => first | rfl | (simp only [i64_w, i32_w]; rfl) | (simp only [i64_w, i32_w]; done)); (with_reducible refine (spec_l1In.calls (rd (rd_L2 l0_1 x3_1) 1) 0 (wrap64 (a0_0 - 1)) t123 _ A12.out).mono ?_); rintro e w' ⟨rfl, ⟨nd, rfl⟩⟩; (try first | exact ⟨rfl, _, World.drewN_drewN _ _ _⟩ | exact ⟨rfl, _, Eq.trans (World.drewN_drewN _ _ _) (congrArg (World.drewN _) (Nat.add_assoc _ _ _))⟩)))
    repeat (go_quiet (first | (go_at_call 58; refine calls_of_args (args' := #[.int .i64 (rd (rd_L2 l0_1 x3_1) 0), .int .i64 0, .int .i64 (wrap64 (a0_0 - 1))]) ?harg ?_; (case harg => first | rfl | (simp only [i64_w, i32_w]; rfl) | (simp only [i64_w, i32_w]; done)); (with_reducible refine (spec_l1In.calls (rd (rd_L2 l0_1 x3_1) 0) 0 (wrap64 (a0_0 - 1)) true _ A9.out).mono ?_); rintro e w' ⟨rfl, ⟨nd, rfl⟩⟩; (try first | exact ⟨rfl, _, World.drewN_drewN _ _ _⟩ | exact ⟨rfl, _, Eq.trans (World.drewN_drewN _ _ _) (congrArg (World.drewN _) (Nat.add_assoc _ _ _))⟩); have p122 : 0 ≤ (1 : Int) := (by omega); have q122 : 1 < ((rd_L2 l0_1 x3_1).length : Int) := of_decide_eq_true as_; obtain ⟨ad122, e122, hx122_0⟩ := Zo HR119_0.out 1 p122 q122; obtain rfl : ad120 = ad122 := (by injection e122); (try simp only [show (1 : Int).toNat = 1 from rfl, Nat.reduceMul, Nat.reduceEqDiff, Go.Addr.add, ↓reduceIte] at hx122_0); have qi122 : (1 < (rd_L2 l0_1 x3_1).length) = True := eq_true (by omega); (try rw [show ((1 : Int)).toNat = 1 from rfl] at hx122_0); replace hx122_0 := (HB.out.cell (World.block_lt_of_cell? w _ hx122_0)).trans hx122_0; replace p122 := eq_true p122; replace q122 := eq_true q122) | (go_at_call 58; refine calls_of_args (args' := #[.int .i64 (rd (rd_L2 l0_1 x3_1) 1), .int .i64 0, .int .i64 (wrap64 (a0_0 - 1))]) ?harg ?_; (case harg => first | rfl | (simp only [i64_w, i32_w]; rfl) | (simp only [i64_w, i32_w]; done)); (with_reducible refine (spec_l1In.calls (rd (rd_L2 l0_1 x3_1) 1) 0 (wrap64 (a0_0 - 1)) t123 _ A12.out).mono ?_); rintro e w' ⟨rfl, ⟨nd, rfl⟩⟩; (try first | exact ⟨rfl, _, World.drewN_drewN _ _ _⟩ | exact ⟨rfl, _, Eq.trans (World.drewN_drewN _ _ _) (congrArg (World.drewN _) (Nat.add_assoc _ _ _))⟩))); try go_wp2_with (first | (go_at_call 58; refine calls_of_args (args' := #[.int .i64 (rd (rd_L2 l0_1 x3_1) 0), .int .i64 0, .int .i64 (wrap64 (a0_0 - 1))]) ?harg ?_; (case harg => first | rfl | (simp only [i64_w, i32_w]; rfl) | (simp only [i64_w, i32_w]; done)); (with_reducible refine (spec_l1In.calls (rd (rd_L2 l0_1 x3_1) 0) 0 (wrap64 (a0_0 - 1)) true _ A9.out).mono ?_); rintro e w' ⟨rfl, ⟨nd, rfl⟩⟩; (try first | exact ⟨rfl, _, World.drewN_drewN _ _ _⟩ | exact ⟨rfl, _, Eq.trans (World.drewN_drewN _ _ _) (congrArg (World.drewN _) (Nat.add_assoc _ _ _))⟩); have p122 : 0 ≤ (1 : Int) := (by omega); have q122 : 1 < ((rd_L2 l0_1 x3_1).length : Int) := of_decide_eq_true as_; obtain ⟨ad122, e122, hx122_0⟩ := Zo HR119_0.out 1 p122 q122; obtain rfl : ad120 = ad122 := (by injection e122); (try simp only [show (1 : Int).toNat = 1 from rfl, Nat.reduceMul, Nat.reduceEqDiff, Go.Addr.add, ↓reduceIte] at hx122_0); have qi122 : (1 < (rd_L2 l0_1 x3_1).length) = True := eq_true (by omega); (try rw [show ((1 : Int)).toNat = 1 from rfl] at hx122_0); replace hx122_0 := (HB.out.cell (World.block_lt_of_cell? w _ hx122_0)).trans hx122_0; replace p122 := eq_true p122; replace q122 := eq_true q122) | (go_at_call 58; refine calls_of_args (args' := #[.int .i64 (rd (rd_L2 l0_1 x3_1) 1), .int .i64 0, .int .i64 (wrap64 (a0_0 - 1))]) ?harg ?_; (case harg => first | rfl | (simp only [i64_w, i32_w]; rfl) | (simp only [i64_w, i32_w]; done)); (with_reducible refine (spec_l1In.calls (rd (rd_L2 l0_1 x3_1) 1) 0 (wrap64 (a0_0 - 1)) t123 _ A12.out).mono ?_); rintro e w' ⟨rfl, ⟨nd, rfl⟩⟩; (try first | exact ⟨rfl, _, World.drewN_drewN _ _ _⟩ | exact ⟨rfl, _, Eq.trans (World.drewN_drewN _ _ _) (congrArg (World.drewN _) (Nat.add_assoc _ _ _))⟩))))
    go_meet
    case rel => exact ⟨_, (!t123), sm_, H', ⟨by have := HK1.out; first | omega | exact Nat.le_refl _⟩, ⟨bk_ BK117.out⟩, ⟨hB_⟩⟩
   case rest =>
    clear HC5
    try clear c1
    try clear p1
    try clear q1
    try clear hx1
    try clear qi1
    try clear p2
    try clear c3
    try clear c3b0
    try clear c4
    try clear c4b0
    try clear c5
    try clear p6
    try clear c7
    try clear c7b0
    try clear c7b1
    try clear c8
    try clear c8b0
    try clear c8b1
    try clear c10
    try clear c11
    try clear c11b0
    try clear c11b1
    try clear p11
    try clear q11
    try clear hx11
    try clear p12
    try clear q12
    try clear hx12
    try clear qi12
    try clear hcz13_0
    try clear hcz13_1
    try clear hcz14_0
    try clear hcz14_1
    try clear hcz6_0
    try clear hcz6_1
    try clear hfz13_0
    try clear hfz13_1
    try clear hfz14_0
    try clear hfz14_1
    try clear hfz6_0
    try clear hfz6_1
    try clear hx119_0
    try clear hx120_0
    try clear hx122_0
    try clear p119
    try clear p120
    try clear p122
    try clear p2
    try clear q119
    try clear q120
    try clear q122
    obtain ⟨kq, x40_4, rfl, HA, HJ4, BK117, HB⟩ := hcut
    cases kq with
    | zero => exact absurd HA.out (by simp [spec_IsGraph.j1])
    | succ kj4 =>
     have H := HA.out
     clear HA
     simp only [spec_IsGraph.j1] at H
     by_cases c15 : x40_4 = true
     ·subst c15
      rw [if_pos rfl] at H
      try dsimp only at H
      obtain rfl := Option.some.inj H
      go_wp2
      repeat (go_quiet (fail); try go_wp2)
      go_ret
      exact ⟨er_, hB_⟩
     replace c15 := Bool.eq_false_iff.mpr c15
     subst c15
     rw [if_neg (show ¬ (false = true) by decide)] at H
     try dsimp only at H
     by_cases c16 : x3_1 > 0
     rotate_left
     ·rw [if_neg c16] at H
      have c16b0 : decide (0 < x3_1) = false := decide_eq_false c16
      clear c16
      have H' := Aside0.mk H
      clear H
      go_wp2
      repeat (go_quiet (fail); try go_wp2)
      go_roundg kj4
      case measure => have := HK1.out; have := HJ4.out; omega
      case rel => exact ⟨(wrap64 (x3_1 + 1)), sm_, H', ⟨by have := HK1.out; have := HJ4.out; omega⟩, ⟨bk_ BK117.out⟩, ⟨hB_⟩⟩
     rw [if_pos c16] at H
     have c16b0 : decide (0 < x3_1) = true := decide_eq_true c16
     clear c16
     obtain ⟨ji17, hji17⟩ : ∃ j_ : Int, (wrap64 (x3_1 - 1)) = j_ := ⟨_, rfl⟩
     replace H : (if 0 ≤ (ji17) then (if (ji17) < (l0_1.length : Int) then (if 0 < ((rd_L2 l0_1 (ji17)).length : Int) then (if 0 < ((rd_L2 l0_1 x3_1).length : Int) then (if (rd (rd_L2 l0_1 (ji17)) 0) > (rd (rd_L2 l0_1 x3_1) 0) then (some false) else (if (rd (rd_L2 l0_1 (ji17)) 0) = (rd (rd_L2 l0_1 x3_1) 0) then (if 1 < ((rd_L2 l0_1 (ji17)).length : Int) then (if 1 < ((rd_L2 l0_1 x3_1).length : Int) then (if (rd (rd_L2 l0_1 (ji17)) 1) ≥ (rd (rd_L2 l0_1 x3_1) 1) then (some false) else (spec_IsGraph.l0 kj4 (wrap64 (x3_1 + 1)) a0_0 l0_1)) else (none)) else (none)) else (spec_IsGraph.l0 kj4 (wrap64 (x3_1 + 1)) a0_0 l0_1))) else (none)) else (none)) else (none)) else (none)) = some r := by first | (rw [hji17] at H; exact H) | (simp only [hji17] at H ⊢; exact H)
     have hji17w : (IntKind.i64.wrap (x3_1 - 1)) = ji17 := (i64_w _).trans hji17
     by_cases c18 : 0 ≤ (ji17)
     rotate_left
     ·rw [if_neg c18] at H
      exact absurd H (by simp)
     rw [if_pos c18] at H
     have c18b0 : decide (0 ≤ (ji17)) = true := decide_eq_true c18
     clear c18
     by_cases c19 : (ji17) < (l0_1.length : Int)
     rotate_left
     ·rw [if_neg c19] at H
      exact absurd H (by simp)
     rw [if_pos c19] at H
     have c19b0 : decide ((ji17) < (l0_1.length : Int)) = true := decide_eq_true c19
     clear c19
     by_cases c20 : 0 < ((rd_L2 l0_1 (ji17)).length : Int)
     rotate_left
     ·rw [if_neg c20] at H
      exact absurd H (by simp)
     rw [if_pos c20] at H
     have c20b0 : decide (0 < ((rd_L2 l0_1 (ji17)).length : Int)) = true := decide_eq_true c20
     have c20b1 : decide (0 < (rd_L2 l0_1 (ji17)).length) = true := decide_eq_true (by omega)
     clear c20
     by_cases c21 : 0 < ((rd_L2 l0_1 x3_1).length : Int)
     rotate_left
     ·rw [if_neg c21] at H
      exact absurd H (by simp)
     rw [if_pos c21] at H
     have c21b0 : decide (0 < ((rd_L2 l0_1 x3_1).length : Int)) = true := decide_eq_true c21
     have c21b1 : decide (0 < (rd_L2 l0_1 x3_1).length) = true := decide_eq_true (by omega)
     clear c21
     by_cases c22 : (rd (rd_L2 l0_1 (ji17)) 0) > (rd (rd_L2 l0_1 x3_1) 0)
     ·rw [if_pos c22] at H
      have c22b0 : decide ((rd (rd_L2 l0_1 x3_1) 0) < (rd (rd_L2 l0_1 (ji17)) 0)) = true := decide_eq_true c22
      clear c22
      obtain rfl := Option.some.inj H
      obtain ⟨hcz23_0, hcz23_1, hfz23_0, hfz23_1⟩ := c2_ BK117.out
      have p124 : 0 ≤ ((ji17) : Int) := of_decide_eq_true as_
      have q124 : (ji17) < (l0_1.length : Int) := of_decide_eq_true as_
      obtain ⟨ad124, A124_0, c124_0, e124, hx124_0, hl124_0, hi124_0⟩ := at_L2 HR0_1.out (ji17) p124 q124
      obtain rfl : ad119 = ad124 := (by injection e124)
      replace hx124_0 := (HB.out.cell (World.block_lt_of_cell? w _ hx124_0)).trans hx124_0
      have HR124_0 := Aside0.mk hi124_0
      have HC124_0 := Aside0.mk hl124_0
      clear hi124_0 hl124_0
      replace p124 := eq_true p124
      replace q124 := eq_true q124
      have p125 : 0 ≤ (0 : Int) := (by omega)
      have q125 : 0 < ((rd_L2 l0_1 (ji17)).length : Int) := of_decide_eq_true as_
      obtain ⟨ad125, e125, hx125_0⟩ := Zo HR124_0.out 0 p125 q125
      cases e125
      have qi125 : (0 < (rd_L2 l0_1 (ji17)).length) = True := eq_true (by omega)
      (try rw [show ((0 : Int)).toNat = 0 from rfl] at hx125_0)
      (try rw [Addr.add_zero'] at hx125_0)
      replace hx125_0 := (HB.out.cell (World.block_lt_of_cell? w _ hx125_0)).trans hx125_0
      replace p125 := eq_true p125
      replace q125 := eq_true q125
      have p126 : 0 ≤ (0 : Int) := (by omega)
      have q126 : 0 < ((rd_L2 l0_1 x3_1).length : Int) := of_decide_eq_true as_
      obtain ⟨ad126, e126, hx126_0⟩ := Zo HR119_0.out 0 p126 q126
      cases e126
      have qi126 : (0 < (rd_L2 l0_1 x3_1).length) = True := eq_true (by omega)
      (try rw [show ((0 : Int)).toNat = 0 from rfl] at hx126_0)
      (try rw [Addr.add_zero'] at hx126_0)
      replace hx126_0 := (HB.out.cell (World.block_lt_of_cell? w _ hx126_0)).trans hx126_0
      replace p126 := eq_true p126
      replace q126 := eq_true q126
      go_wp2
      repeat (go_quiet (fail); try go_wp2)
      go_ret
      exact ⟨by first | rfl | (simp [errW_none, errW_some] <;> rfl) | (simp only [← hji17]; first | rfl | (simp [errW_none, errW_some] <;> rfl)) | (simp [*, errW_none, errW_some] <;> rfl), hB_⟩
     rw [if_neg c22] at H
     have c22b0 : decide ((rd (rd_L2 l0_1 x3_1) 0) < (rd (rd_L2 l0_1 (ji17)) 0)) = false := decide_eq_false c22
     clear c22
     by_cases c24 : (rd (rd_L2 l0_1 (ji17)) 0) = (rd (rd_L2 l0_1 x3_1) 0)
     rotate_left
     ·rw [if_neg c24] at H
      have c24b0 : ((rd (rd_L2 l0_1 (ji17)) 0) == (rd (rd_L2 l0_1 x3_1) 0)) = false := beq_eq_false_iff_ne.mpr c24
      have c24b1 : ((rd (rd_L2 l0_1 (ji17)) 0) != (rd (rd_L2 l0_1 x3_1) 0)) = true := bne_iff_ne.mpr c24
      have H' := Aside0.mk H
      clear H
      obtain ⟨hcz30_0, hcz30_1, hfz30_0, hfz30_1⟩ := c2_ BK117.out
      have p124 : 0 ≤ ((ji17) : Int) := of_decide_eq_true as_
      have q124 : (ji17) < (l0_1.length : Int) := of_decide_eq_true as_
      obtain ⟨ad124, A124_0, c124_0, e124, hx124_0, hl124_0, hi124_0⟩ := at_L2 HR0_1.out (ji17) p124 q124
      obtain rfl : ad119 = ad124 := (by injection e124)
      replace hx124_0 := (HB.out.cell (World.block_lt_of_cell? w _ hx124_0)).trans hx124_0
      have HR124_0 := Aside0.mk hi124_0
      have HC124_0 := Aside0.mk hl124_0
      clear hi124_0 hl124_0
      replace p124 := eq_true p124
      replace q124 := eq_true q124
      have p125 : 0 ≤ (0 : Int) := (by omega)
      have q125 : 0 < ((rd_L2 l0_1 (ji17)).length : Int) := of_decide_eq_true as_
      obtain ⟨ad125, e125, hx125_0⟩ := Zo HR124_0.out 0 p125 q125
      cases e125
      have qi125 : (0 < (rd_L2 l0_1 (ji17)).length) = True := eq_true (by omega)
      (try rw [show ((0 : Int)).toNat = 0 from rfl] at hx125_0)
      (try rw [Addr.add_zero'] at hx125_0)
      replace hx125_0 := (HB.out.cell (World.block_lt_of_cell? w _ hx125_0)).trans hx125_0
      replace p125 := eq_true p125
      replace q125 := eq_true q125
      have p126 : 0 ≤ (0 : Int) := (by omega)
      have q126 : 0 < ((rd_L2 l0_1 x3_1).length : Int) := of_decide_eq_true as_
      obtain ⟨ad126, e126, hx126_0⟩ := Zo HR119_0.out 0 p126 q126
      cases e126
      have qi126 : (0 < (rd_L2 l0_1 x3_1).length) = True := eq_true (by omega)
      (try rw [show ((0 : Int)).toNat = 0 from rfl] at hx126_0)
      (try rw [Addr.add_zero'] at hx126_0)
      replace hx126_0 := (HB.out.cell (World.block_lt_of_cell? w _ hx126_0)).trans hx126_0
      replace p126 := eq_true p126
      replace q126 := eq_true q126
      have p127 : 0 ≤ (0 : Int) := (by omega)
      have q127 : 0 < ((rd_L2 l0_1 (ji17)).length : Int) := of_decide_eq_true as_
      obtain ⟨ad127, e127, hx127_0⟩ := Zo HR124_0.out 0 p127 q127
      obtain rfl : ad125 = ad127 := (by injection e127)
      have qi127 : (0 < (rd_L2 l0_1 (ji17)).length) = True := eq_true (by omega)
      (try rw [show ((0 : Int)).toNat = 0 from rfl] at hx127_0)
      (try rw [Addr.add_zero'] at hx127_0)
      replace hx127_0 := (HB.out.cell (World.block_lt_of_cell? w _ hx127_0)).trans hx127_0
      replace p127 := eq_true p127
      replace q127 := eq_true q127
      have p128 : 0 ≤ (0 : Int) := (by omega)
      have q128 : 0 < ((rd_L2 l0_1 x3_1).length : Int) := of_decide_eq_true as_
      obtain ⟨ad128, e128, hx128_0⟩ := Zo HR119_0.out 0 p128 q128
      obtain rfl : ad126 = ad128 := (by injection e128)
      have qi128 : (0 < (rd_L2 l0_1 x3_1).length) = True := eq_true (by omega)
      (try rw [show ((0 : Int)).toNat = 0 from rfl] at hx128_0)
      (try rw [Addr.add_zero'] at hx128_0)
      replace hx128_0 := (HB.out.cell (World.block_lt_of_cell? w _ hx128_0)).trans hx128_0
      replace p128 := eq_true p128
      replace q128 := eq_true q128
      go_wp2
      repeat (go_quiet (fail); try go_wp2)
      go_roundg kj4
      case measure => have := HK1.out; have := HJ4.out; omega
      case rel => exact ⟨(wrap64 (x3_1 + 1)), sm_, H', ⟨by have := HK1.out; have := HJ4.out; omega⟩, ⟨bk_ BK117.out⟩, ⟨hB_⟩⟩
     rw [if_pos c24] at H
     have c24b0 : ((rd (rd_L2 l0_1 (ji17)) 0) == (rd (rd_L2 l0_1 x3_1) 0)) = true := beq_iff_eq.mpr c24
     have c24b1 : ((rd (rd_L2 l0_1 (ji17)) 0) != (rd (rd_L2 l0_1 x3_1) 0)) = false := bne_eq_false_iff_eq.mpr c24
     clear c24
     by_cases c25 : 1 < ((rd_L2 l0_1 (ji17)).length : Int)
     rotate_left
     ·rw [if_neg c25] at H
      exact absurd H (by simp)
     rw [if_pos c25] at H
     have c25b0 : decide (1 < ((rd_L2 l0_1 (ji17)).length : Int)) = true := decide_eq_true c25
     have c25b1 : decide (1 < (rd_L2 l0_1 (ji17)).length) = true := decide_eq_true (by omega)
     clear c25
     by_cases c26 : 1 < ((rd_L2 l0_1 x3_1).length : Int)
     rotate_left
     ·rw [if_neg c26] at H
      exact absurd H (by simp)
     rw [if_pos c26] at H
     have c26b0 : decide (1 < ((rd_L2 l0_1 x3_1).length : Int)) = true := decide_eq_true c26
     have c26b1 : decide (1 < (rd_L2 l0_1 x3_1).length) = true := decide_eq_true (by omega)
     clear c26
     by_cases c27 : (rd (rd_L2 l0_1 (ji17)) 1) ≥ (rd (rd_L2 l0_1 x3_1) 1)
     ·rw [if_pos c27] at H
      have c27b0 : decide ((rd (rd_L2 l0_1 x3_1) 1) ≤ (rd (rd_L2 l0_1 (ji17)) 1)) = true := decide_eq_true c27
      clear c27
      obtain rfl := Option.some.inj H
      obtain ⟨hcz28_0, hcz28_1, hfz28_0, hfz28_1⟩ := c2_ BK117.out
      have p124 : 0 ≤ ((ji17) : Int) := of_decide_eq_true as_
      have q124 : (ji17) < (l0_1.length : Int) := of_decide_eq_true as_
      obtain ⟨ad124, A124_0, c124_0, e124, hx124_0, hl124_0, hi124_0⟩ := at_L2 HR0_1.out (ji17) p124 q124
      obtain rfl : ad119 = ad124 := (by injection e124)
      replace hx124_0 := (HB.out.cell (World.block_lt_of_cell? w _ hx124_0)).trans hx124_0
      have HR124_0 := Aside0.mk hi124_0
      have HC124_0 := Aside0.mk hl124_0
      clear hi124_0 hl124_0
      replace p124 := eq_true p124
      replace q124 := eq_true q124
      have p125 : 0 ≤ (0 : Int) := (by omega)
      have q125 : 0 < ((rd_L2 l0_1 (ji17)).length : Int) := of_decide_eq_true as_
      obtain ⟨ad125, e125, hx125_0⟩ := Zo HR124_0.out 0 p125 q125
      cases e125
      have qi125 : (0 < (rd_L2 l0_1 (ji17)).length) = True := eq_true (by omega)
      (try rw [show ((0 : Int)).toNat = 0 from rfl] at hx125_0)
      (try rw [Addr.add_zero'] at hx125_0)
      replace hx125_0 := (HB.out.cell (World.block_lt_of_cell? w _ hx125_0)).trans hx125_0
      replace p125 := eq_true p125
      replace q125 := eq_true q125
      have p126 : 0 ≤ (0 : Int) := (by omega)
      have q126 : 0 < ((rd_L2 l0_1 x3_1).length : Int) := of_decide_eq_true as_
      obtain ⟨ad126, e126, hx126_0⟩ := Zo HR119_0.out 0 p126 q126
      cases e126
      have qi126 : (0 < (rd_L2 l0_1 x3_1).length) = True := eq_true (by omega)
      (try rw [show ((0 : Int)).toNat = 0 from rfl] at hx126_0)
      (try rw [Addr.add_zero'] at hx126_0)
      replace hx126_0 := (HB.out.cell (World.block_lt_of_cell? w _ hx126_0)).trans hx126_0
      replace p126 := eq_true p126
      replace q126 := eq_true q126
      have p127 : 0 ≤ (0 : Int) := (by omega)
      have q127 : 0 < ((rd_L2 l0_1 (ji17)).length : Int) := of_decide_eq_true as_
      obtain ⟨ad127, e127, hx127_0⟩ := Zo HR124_0.out 0 p127 q127
      obtain rfl : ad125 = ad127 := (by injection e127)
      have qi127 : (0 < (rd_L2 l0_1 (ji17)).length) = True := eq_true (by omega)
      (try rw [show ((0 : Int)).toNat = 0 from rfl] at hx127_0)
      (try rw [Addr.add_zero'] at hx127_0)
      replace hx127_0 := (HB.out.cell (World.block_lt_of_cell? w _ hx127_0)).trans hx127_0
      replace p127 := eq_true p127
      replace q127 := eq_true q127
      have p128 : 0 ≤ (0 : Int) := (by omega)
      have q128 : 0 < ((rd_L2 l0_1 x3_1).length : Int) := of_decide_eq_true as_
      obtain ⟨ad128, e128, hx128_0⟩ := Zo HR119_0.out 0 p128 q128
      obtain rfl : ad126 = ad128 := (by injection e128)
      have qi128 : (0 < (rd_L2 l0_1 x3_1).length) = True := eq_true (by omega)
      (try rw [show ((0 : Int)).toNat = 0 from rfl] at hx128_0)
      (try rw [Addr.add_zero'] at hx128_0)
      replace hx128_0 := (HB.out.cell (World.block_lt_of_cell? w _ hx128_0)).trans hx128_0
      replace p128 := eq_true p128
      replace q128 := eq_true q128
      have p129 : 0 ≤ (1 : Int) := (by omega)
      have q129 : 1 < ((rd_L2 l0_1 (ji17)).length : Int) := of_decide_eq_true as_
      obtain ⟨ad129, e129, hx129_0⟩ := Zo HR124_0.out 1 p129 q129
      obtain rfl : ad125 = ad129 := (by injection e129)
      (try simp only [show (1 : Int).toNat = 1 from rfl, Nat.reduceMul, Nat.reduceEqDiff, Go.Addr.add, ↓reduceIte] at hx129_0)
      have qi129 : (1 < (rd_L2 l0_1 (ji17)).length) = True := eq_true (by omega)
      (try rw [show ((1 : Int)).toNat = 1 from rfl] at hx129_0)
      replace hx129_0 := (HB.out.cell (World.block_lt_of_cell? w _ hx129_0)).trans hx129_0
      replace p129 := eq_true p129
      replace q129 := eq_true q129
      have p130 : 0 ≤ (1 : Int) := (by omega)
      have q130 : 1 < ((rd_L2 l0_1 x3_1).length : Int) := of_decide_eq_true as_
      obtain ⟨ad130, e130, hx130_0⟩ := Zo HR119_0.out 1 p130 q130
      obtain rfl : ad126 = ad130 := (by injection e130)
      (try simp only [show (1 : Int).toNat = 1 from rfl, Nat.reduceMul, Nat.reduceEqDiff, Go.Addr.add, ↓reduceIte] at hx130_0)
      have qi130 : (1 < (rd_L2 l0_1 x3_1).length) = True := eq_true (by omega)
      (try rw [show ((1 : Int)).toNat = 1 from rfl] at hx130_0)
      replace hx130_0 := (HB.out.cell (World.block_lt_of_cell? w _ hx130_0)).trans hx130_0
      replace p130 := eq_true p130
      replace q130 := eq_true q130
      go_wp2
      repeat (go_quiet (fail); try go_wp2)
      go_ret
      exact ⟨by first | rfl | (simp [errW_none, errW_some] <;> rfl) | (simp only [← hji17]; first | rfl | (simp [errW_none, errW_some] <;> rfl)) | (simp [*, errW_none, errW_some] <;> rfl), hB_⟩
     rw [if_neg c27] at H
     have c27b0 : decide ((rd (rd_L2 l0_1 x3_1) 1) ≤ (rd (rd_L2 l0_1 (ji17)) 1)) = false := decide_eq_false c27
     clear c27
     have H' := Aside0.mk H
     clear H
     obtain ⟨hcz29_0, hcz29_1, hfz29_0, hfz29_1⟩ := c2_ BK117.out
     have p124 : 0 ≤ ((ji17) : Int) := of_decide_eq_true as_
     have q124 : (ji17) < (l0_1.length : Int) := of_decide_eq_true as_
     obtain ⟨ad124, A124_0, c124_0, e124, hx124_0, hl124_0, hi124_0⟩ := at_L2 HR0_1.out (ji17) p124 q124
     obtain rfl : ad119 = ad124 := (by injection e124)
     replace hx124_0 := (HB.out.cell (World.block_lt_of_cell? w _ hx124_0)).trans hx124_0
     have HR124_0 := Aside0.mk hi124_0
     have HC124_0 := Aside0.mk hl124_0
     clear hi124_0 hl124_0
     replace p124 := eq_true p124
     replace q124 := eq_true q124
     have p125 : 0 ≤ (0 : Int) := (by omega)
     have q125 : 0 < ((rd_L2 l0_1 (ji17)).length : Int) := of_decide_eq_true as_
     obtain ⟨ad125, e125, hx125_0⟩ := Zo HR124_0.out 0 p125 q125
     cases e125
     have qi125 : (0 < (rd_L2 l0_1 (ji17)).length) = True := eq_true (by omega)
     (try rw [show ((0 : Int)).toNat = 0 from rfl] at hx125_0)
     (try rw [Addr.add_zero'] at hx125_0)
     replace hx125_0 := (HB.out.cell (World.block_lt_of_cell? w _ hx125_0)).trans hx125_0
     replace p125 := eq_true p125
     replace q125 := eq_true q125
     have p126 : 0 ≤ (0 : Int) := (by omega)
     have q126 : 0 < ((rd_L2 l0_1 x3_1).length : Int) := of_decide_eq_true as_
     obtain ⟨ad126, e126, hx126_0⟩ := Zo HR119_0.out 0 p126 q126
     cases e126
     have qi126 : (0 < (rd_L2 l0_1 x3_1).length) = True := eq_true (by omega)
     (try rw [show ((0 : Int)).toNat = 0 from rfl] at hx126_0)
     (try rw [Addr.add_zero'] at hx126_0)
     replace hx126_0 := (HB.out.cell (World.block_lt_of_cell? w _ hx126_0)).trans hx126_0
     replace p126 := eq_true p126
     replace q126 := eq_true q126
     have p127 : 0 ≤ (0 : Int) := (by omega)
     have q127 : 0 < ((rd_L2 l0_1 (ji17)).length : Int) := of_decide_eq_true as_
     obtain ⟨ad127, e127, hx127_0⟩ := Zo HR124_0.out 0 p127 q127
     obtain rfl : ad125 = ad127 := (by injection e127)
     have qi127 : (0 < (rd_L2 l0_1 (ji17)).length) = True := eq_true (by omega)
     (try rw [show ((0 : Int)).toNat = 0 from rfl] at hx127_0)
     (try rw [Addr.add_zero'] at hx127_0)
     replace hx127_0 := (HB.out.cell (World.block_lt_of_cell? w _ hx127_0)).trans hx127_0
     replace p127 := eq_true p127
     replace q127 := eq_true q127
     have p128 : 0 ≤ (0 : Int) := (by omega)
     have q128 : 0 < ((rd_L2 l0_1 x3_1).length : Int) := of_decide_eq_true as_
     obtain ⟨ad128, e128, hx128_0⟩ := Zo HR119_0.out 0 p128 q128
     obtain rfl : ad126 = ad128 := (by injection e128)
     have qi128 : (0 < (rd_L2 l0_1 x3_1).length) = True := eq_true (by omega)
     (try rw [show ((0 : Int)).toNat = 0 from rfl] at hx128_0)
     (try rw [Addr.add_zero'] at hx128_0)
     replace hx128_0 := (HB.out.cell (World.block_lt_of_cell? w _ hx128_0)).trans hx128_0
     replace p128 := eq_true p128
     replace q128 := eq_true q128
     have p129 : 0 ≤ (1 : Int) := (by omega)
     have q129 : 1 < ((rd_L2 l0_1 (ji17)).length : Int) := of_decide_eq_true as_
     obtain ⟨ad129, e129, hx129_0⟩ := Zo HR124_0.out 1 p129 q129
     obtain rfl : ad125 = ad129 := (by injection e129)
     (try simp only [show (1 : Int).toNat = 1 from rfl, Nat.reduceMul, Nat.reduceEqDiff, Go.Addr.add, ↓reduceIte] at hx129_0)
     have qi129 : (1 < (rd_L2 l0_1 (ji17)).length) = True := eq_true (by omega)
     (try rw [show ((1 : Int)).toNat = 1 from rfl] at hx129_0)
     replace hx129_0 := (HB.out.cell (World.block_lt_of_cell? w _ hx129_0)).trans hx129_0
     replace p129 := eq_true p129
     replace q129 := eq_true q129
     have p130 : 0 ≤ (1 : Int) := (by omega)
     have q130 : 1 < ((rd_L2 l0_1 x3_1).length : Int) := of_decide_eq_true as_
     obtain ⟨ad130, e130, hx130_0⟩ := Zo HR119_0.out 1 p130 q130
     obtain rfl : ad126 = ad130 := (by injection e130)
     (try simp only [show (1 : Int).toNat = 1 from rfl, Nat.reduceMul, Nat.reduceEqDiff, Go.Addr.add, ↓reduceIte] at hx130_0)
     have qi130 : (1 < (rd_L2 l0_1 x3_1).length) = True := eq_true (by omega)
     (try rw [show ((1 : Int)).toNat = 1 from rfl] at hx130_0)
     replace hx130_0 := (HB.out.cell (World.block_lt_of_cell? w _ hx130_0)).trans hx130_0
     replace p130 := eq_true p130
     replace q130 := eq_true q130
     go_wp2
     repeat (go_quiet (fail); try go_wp2)
     go_roundg kj4
     case measure => have := HK1.out; have := HJ4.out; omega
     case rel => exact ⟨(wrap64 (x3_1 + 1)), sm_, H', ⟨by have := HK1.out; have := HJ4.out; omega⟩, ⟨bk_ BK117.out⟩, ⟨hB_⟩⟩

end Go.Proofs.Ytdlobolnajcfnaa.PFnPositions
