-- Written by a program of this session (hooks of mine on the print): Lean checks it.
import Derived.Test.YtdlobolnajcfnaaPFnPositionsx0
import Derived.Test.YtdlobolnajcfnaaPFnPositionsx2
import Derived.Test.YtdlobolnajcfnaaPFnPositionsx3
namespace Go.Proofs.Ytdlobolnajcfnaa.PFnPositions
open Go.RowKit Go.Proofs.YtdlobolnajcfnaaW.PrintWords Go.Proofs.YtdlobolnajcfnaaW.PrintLast Go.Proofs.YtdlobolnajcfnaaW.PrintMore
attribute [local go_sem] max2_int min2_int max_two min_two max_three min_three max_four min_four   -- for this text's walks alone
set_option linter.unusedVariables false
set_option linter.unusedSimpArgs false

/-! ### spec_AddAttack: function 102 -/
mutual
def spec_AddAttack.l0 : Nat → Int → Int → Bool → Int → Int → List (List Int) → Int → List (List Int) → Option (Int × (List (List Int)) × Bool)
 | 0, _, _, _, _, _, _, _, _ => none
 | k + 1, x1, x2, x9, x10, x145000, x145001, x147000, x147001 => if x10 < (x145001.length : Int) then ((spec_IsGraph.f k x145000 x145001).bind fun t147 => (spec_AddAttack.j1 k x1 x2 x9 x10 t147 x145000 x145001 x147000 x147001)) else (spec_AddAttack.j1 k x1 x2 x9 x10 false x145000 x145001 x147000 x147001)
def spec_AddAttack.j1 : Nat → Int → Int → Bool → Int → Bool → Int → List (List Int) → Int → List (List Int) → Option (Int × (List (List Int)) × Bool)
 | 0, _, _, _, _, _, _, _, _, _ => none
 | k + 1, x1, x2, x9, x10, x23, x145000, x145001, x147000, x147001 => if x23 = true then (if 0 ≤ x10 then (if x10 < (x145001.length : Int) then (if x9 = true then ((some (([] : List Int) : List Int)).bind fun y149 => (if y149.length + (rd_L2 x145001 x10).length < 17592186044416 then (if x147001.length < 5864062014805 then (spec_AddAttack.l0 k x1 x2 x9 (wrap64 (x10 + 1)) x145000 x145001 x147000 (x147001 ++ [(y149 ++ (rd_L2 x145001 x10))])) else (none)) else (none))) else (if 0 < ((rd_L2 x145001 x10).length : Int) then (if (rd (rd_L2 x145001 x10) 0) > x1 then (if x147001.length < 5864062014805 then ((some (x147001 ++ [(([x1, x2] : List Int))] : List (List Int))).bind fun y162 => ((some (([] : List Int) : List Int)).bind fun y165 => (if y165.length + (rd_L2 x145001 x10).length < 17592186044416 then (if y162.length < 5864062014805 then (spec_AddAttack.l0 k x1 x2 true (wrap64 (x10 + 1)) x145000 x145001 x147000 (y162 ++ [(y165 ++ (rd_L2 x145001 x10))])) else (none)) else (none)))) else (none)) else (if (rd (rd_L2 x145001 x10) 0) = x1 then (if 1 < ((rd_L2 x145001 x10).length : Int) then (if (rd (rd_L2 x145001 x10) 1) > x2 then (if x147001.length < 5864062014805 then ((some (x147001 ++ [(([x1, x2] : List Int))] : List (List Int))).bind fun y179 => ((some (([] : List Int) : List Int)).bind fun y182 => (if y182.length + (rd_L2 x145001 x10).length < 17592186044416 then (if y179.length < 5864062014805 then (spec_AddAttack.l0 k x1 x2 true (wrap64 (x10 + 1)) x145000 x145001 x147000 (y179 ++ [(y182 ++ (rd_L2 x145001 x10))])) else (none)) else (none)))) else (none)) else ((some (([] : List Int) : List Int)).bind fun y191 => (if y191.length + (rd_L2 x145001 x10).length < 17592186044416 then (if x147001.length < 5864062014805 then (spec_AddAttack.l0 k x1 x2 x9 (wrap64 (x10 + 1)) x145000 x145001 x147000 (x147001 ++ [(y191 ++ (rd_L2 x145001 x10))])) else (none)) else (none)))) else (none)) else ((some (([] : List Int) : List Int)).bind fun y200 => (if y200.length + (rd_L2 x145001 x10).length < 17592186044416 then (if x147001.length < 5864062014805 then (spec_AddAttack.l0 k x1 x2 x9 (wrap64 (x10 + 1)) x145000 x145001 x147000 (x147001 ++ [(y200 ++ (rd_L2 x145001 x10))])) else (none)) else (none))))) else (none))) else (none)) else (none)) else (if x9 = true then (spec_AddAttack.j2 k x145000 x145001 x147000 x147001) else (if x147001.length < 5864062014805 then (spec_AddAttack.j2 k x145000 x145001 x147000 (x147001 ++ [(([x1, x2] : List Int))])) else (none)))
def spec_AddAttack.j2 : Nat → Int → List (List Int) → Int → List (List Int) → Option (Int × (List (List Int)) × Bool)
 | 0, _, _, _, _ => none
 | k + 1, x145000, x145001, x147000, x147001 => (spec_IsGraph.f k x145000 x145001).bind fun t215 => (if t215 = true then ((spec_IsGraph.f k x147000 x147001).bind fun t216 => (if t216 = true then (some (x147000, x147001, true)) else ((spec_l4Copy.f k x145000 x145001).bind fun bt217 => (some (bt217.1, bt217.2, false))))) else ((spec_l4Copy.f k x145000 x145001).bind fun bt221 => (some (bt221.1, bt221.2, false))))
end
def spec_AddAttack.f (k : Nat) (a0_0 : Int) (l0_1 : List (List Int)) (a1 : Int) (a2 : Int) : Option (Int × (List (List Int)) × Bool) := spec_AddAttack.l0 k a1 a2 false 0 a0_0 l0_1 a0_0 ([] : List (List Int))
theorem spec_AddAttack.mono_l : ∀ k, (∀ y0 y1 y2 y3 y4 y5 y6 y7, LeO (spec_AddAttack.l0 k y0 y1 y2 y3 y4 y5 y6 y7) (spec_AddAttack.l0 (k + 1) y0 y1 y2 y3 y4 y5 y6 y7)) ∧ (∀ y0 y1 y2 y3 y4 y5 y6 y7 y8, LeO (spec_AddAttack.j1 k y0 y1 y2 y3 y4 y5 y6 y7 y8) (spec_AddAttack.j1 (k + 1) y0 y1 y2 y3 y4 y5 y6 y7 y8)) ∧ (∀ y0 y1 y2 y3, LeO (spec_AddAttack.j2 k y0 y1 y2 y3) (spec_AddAttack.j2 (k + 1) y0 y1 y2 y3))
 | 0 => ⟨fun _ _ _ _ _ _ _ _ r h => by simp [spec_AddAttack.l0] at h, fun _ _ _ _ _ _ _ _ _ r h => by simp [spec_AddAttack.j1] at h, fun _ _ _ _ r h => by simp [spec_AddAttack.j2] at h⟩
 | k + 1 => by
  obtain ⟨ih0, ih1, ih2⟩ := spec_AddAttack.mono_l k
  refine ⟨?_, ?_, ?_⟩
  ·intro y0 y1 y2 y3 y4 y5 y6 y7
   unfold spec_AddAttack.l0
   repeat' with_reducible first | apply ih0 | apply ih1 | apply ih2 | apply spec_IsGraph.mono | apply spec_l4Copy.mono | apply Zy | apply Zg | refine Zl ?_ ?_ | refine Zh ?_ (fun _ => ?_)
  ·intro y0 y1 y2 y3 y4 y5 y6 y7 y8
   unfold spec_AddAttack.j1
   repeat' with_reducible first | apply ih0 | apply ih1 | apply ih2 | apply spec_IsGraph.mono | apply spec_l4Copy.mono | apply Zy | apply Zg | refine Zl ?_ ?_ | refine Zh ?_ (fun _ => ?_)
  ·intro y0 y1 y2 y3
   unfold spec_AddAttack.j2
   repeat' with_reducible first | apply ih0 | apply ih1 | apply ih2 | apply spec_IsGraph.mono | apply spec_l4Copy.mono | apply Zy | apply Zg | refine Zl ?_ ?_ | refine Zh ?_ (fun _ => ?_)
theorem spec_AddAttack.mono : ∀ a0 a1 a2 a3 k, LeO (spec_AddAttack.f k a0 a1 a2 a3) (spec_AddAttack.f (k + 1) a0 a1 a2 a3) := by
 intro a0 a1 a2 a3 k
 obtain ⟨ih0, ih1, ih2⟩ := spec_AddAttack.mono_l k
 unfold spec_AddAttack.f
 repeat' with_reducible first | apply ih0 | apply ih1 | apply ih2 | apply spec_IsGraph.mono | apply spec_l4Copy.mono | apply Zy | apply Zg | refine Zl ?_ ?_ | refine Zh ?_ (fun _ => ?_)
def spec_AddAttack.T10 : Bool × List (List Nat × List Nat) := (true, [([], []), ([0], [0]), ([], []), ([], []), ([2, 3], [2, 3]), ([4], [4]), ([1, 5, 4], [1, 5]), ([0, 1, 2, 3, 4, 5, 6], []), ([7, 6, 6, 0, 1, 2, 3, 4, 5, 6], [6, 7])])
def spec_AddAttack.B10 : List Nat := [0, 1, 0, 0, 12, 28, 63, 127, 255]
theorem spec_AddAttack.tab10 : rtab .any (opsOf Try.f102 10) = spec_AddAttack.T10 := by kernel_rfl
theorem spec_AddAttack.bits10 : waitsOk spec_AddAttack.T10.2 spec_AddAttack.B10 = true := by kernel_rfl
set_option maxHeartbeats 8000000 in
set_option maxRecDepth 100000 in
theorem spec_AddAttack.calls (k : Nat) (a0_0 : Int) (A0_1 : Option Addr) (c0_1 : Nat) (l0_1 : List (List Int)) (a1 : Int) (a2 : Int) (r1 : Int) (r2 : List (List Int)) (r3 : Bool) (w : World) (hr0_1 : Kd.C (Kd.slice 3 (Kd.int .i64)) w A0_1 l0_1.length l0_1) (hc0_1 : l0_1.length ≤ c0_1) (h : spec_AddAttack.f k a0_0 l0_1 a1 a2 = some (r1, r2, r3)) :
  Calls Try.prog 102 #[.agg #[.int .i64 a0_0, .slice A0_1 l0_1.length c0_1], .int .i64 a1, .int .i64 a2] w fun e w' => ∃ v1_ : Value, e = .returned (.tuple #[.agg #[.int .i64 r1, v1_], .bool r3]) ∧ Kd.S (Kd.slice 3 (Kd.int .i64)) 31 w' w.heap.size (fun _ => True) v1_ r2 ∧ Below w.heap.size w w' := by
 have hu27 := Try.underlying27
 have HR0_1 := Aside0.mk hr0_1
 have HC0_1 := Aside0.mk hc0_1
 clear hr0_1 hc0_1
 have HB := Aside0.mk (Below.refl w.heap.size w)
 have H := h
 unfold spec_AddAttack.f at H
 clear h
 have H' := Aside0.mk H
 clear H
 go_enter Try.func102, Try.ntmps102
 go_wp2_with (first | ((with_reducible refine Zz (N := 3) rfl ?_); refine ZI ?hg (N := 3) ?hd (cs := #[.int .i64 a0_0, .slice A0_1 l0_1.length c0_1]) (t := 27) ?hr ?_; (case hd => rfl); (case hg => rfl); (case hr => first | (go_simp; done) | (go_simp; rfl)); intro gb144 hg w4 hbox hb; have BK144 := Aside0.mk (hbox); have GW144 := Aside0.mk ((hz_ hg : w.heap.size ≤ gb144)); have GE144 := Aside0.mk ((hz_ hg : w.heap.size ≤ gb144)); replace HB := Aside0.mk (Zc hB_ hb); clear hb hbox hg) | ((with_reducible refine Zz (N := 6) rfl ?_); refine ZI ?hg (N := 6) ?hd (cs := #[.int .i64 0, .slice none 0 0]) (t := 27) ?hr ?_; (case hd => rfl); (case hg => rfl); (case hr => first | (go_simp; done) | (go_simp; rfl)); intro gb145 hg w5 hbox hb; have BK145 := Aside0.mk (hbox); have GW145 := Aside0.mk ((hz_ hg : w.heap.size ≤ gb145)); have GE145 := Aside0.mk ((hz_ hg : w.heap.size ≤ gb145)); replace HB := Aside0.mk (Zc hB_ hb); have NB144_145 := Aside0.mk ((by rw [hg]; exact Nat.ne_of_lt (blk_lt (bq_ BK144.out)) : gb144 ≠ gb145)); have NB145_144 := Aside0.mk ((by rw [hg]; exact Nat.ne_of_gt (blk_lt (bq_ BK144.out)) : gb145 ≠ gb144)); replace BK144 := Aside0.mk (Zd (bq_ BK144.out) hb); clear hb hbox hg; have hnb6 := NB144_145.out; have hnc6 := NB145_144.out; obtain ⟨hcz7_0, hcz7_1, hfz7_0, hfz7_1⟩ := c2_ BK144.out) | ((with_reducible refine Zz (N := 8) rfl ?_); refine ZI ?hg (N := 8) ?hd (cs := #[.int .i64 0, .slice none 0 0]) (t := 27) ?hr ?_; (case hd => rfl); (case hg => rfl); (case hr => first | (go_simp; done) | (go_simp; rfl)); intro gb146 hg w8 hbox hb; have BK146 := Aside0.mk (hbox); have GW146 := Aside0.mk ((hz_ hg : w.heap.size ≤ gb146)); have GE146 := Aside0.mk ((hz_ hg : w.heap.size ≤ gb146)); replace HB := Aside0.mk (Zc hB_ hb); have NB144_146 := Aside0.mk ((by rw [hg]; exact Nat.ne_of_lt (blk_lt (bq_ BK144.out)) : gb144 ≠ gb146)); have NB146_144 := Aside0.mk ((by rw [hg]; exact Nat.ne_of_gt (blk_lt (bq_ BK144.out)) : gb146 ≠ gb144)); replace BK144 := Aside0.mk (Zd (bq_ BK144.out) hb); have NB145_146 := Aside0.mk ((by rw [hg]; exact Nat.ne_of_lt (blk_lt (bq_ BK145.out)) : gb145 ≠ gb146)); have NB146_145 := Aside0.mk ((by rw [hg]; exact Nat.ne_of_gt (blk_lt (bq_ BK145.out)) : gb146 ≠ gb145)); replace BK145 := Aside0.mk (Zd (bq_ BK145.out) hb); clear hb hbox hg; have hnb9 := NB146_144.out; have hnc9 := NB144_146.out; have hnb10 := NB146_145.out; have hnc10 := NB145_146.out; obtain ⟨hcz11_0, hcz11_1, hfz11_0, hfz11_1⟩ := c2_ BK146.out))
 go_loopg [9, 10] k (fun kq v9 v10 w' => ∃ (x9_1 : Bool) (x10_1 : Int) (x147001_1 : List (List Int)) (u147001 : Value), v9 = .bool x9_1 ∧ v10 = .int .i64 x10_1 ∧ Aside0 (spec_AddAttack.l0 kq a1 a2 x9_1 x10_1 a0_0 l0_1 a0_0 x147001_1 = some (r1, r2, r3)) ∧ Aside0 (kq ≤ k) ∧ Aside0 (Kd.S (Kd.slice 3 (Kd.int .i64)) 31 w' w.heap.size (fun _ => True) u147001 x147001_1) ∧ Aside0 (w'.heap[gb144]? = some (.cells #[.int .i64 a0_0, (.slice A0_1 l0_1.length c0_1)] 27 (0, 0))) ∧ Aside0 (w'.heap[gb145]? = some (.cells #[.int .i64 0, (.slice none 0 0)] 27 (0, 0))) ∧ Aside0 (w'.heap[gb146]? = some (.cells #[.int .i64 a0_0, u147001] 27 (0, 0))) ∧ Aside0 (Below w.heap.size w w'))
 case atStart => exact ⟨(false), (0), (([] : List (List Int))), (.slice none 0 0), sm_, sm_, H', ⟨Nat.le_refl _⟩, ⟨by first | exact Kd.S_nil _ _ _ _ _ | exact Kd.N_nil _ _ _ _ _ | exact Kd.V_nil _ _ _ _ _ | exact Kd.Q_nil _ _ _ _ _ | exact Kd.R_nil _ _ _ _ _⟩, ⟨by (with_reducible repeat (first | refine Zk ?_ _ | refine Zj ?_ | refine Zi ?_ _)); refine blk_far ?_ NB144_146.out _; (with_reducible repeat (first | refine Zk ?_ _ | refine Zj ?_ | refine Zi ?_ _)); refine blk_far ?_ NB144_146.out _; (with_reducible repeat (first | refine Zk ?_ _ | refine Zj ?_ | refine Zi ?_ _)); exact BK144.out⟩, ⟨by (with_reducible repeat (first | refine Zk ?_ _ | refine Zj ?_ | refine Zi ?_ _)); refine blk_far ?_ NB145_146.out _; (with_reducible repeat (first | refine Zk ?_ _ | refine Zj ?_ | refine Zi ?_ _)); refine blk_far ?_ NB145_146.out _; (with_reducible repeat (first | refine Zk ?_ _ | refine Zj ?_ | refine Zi ?_ _)); exact BK145.out⟩, ⟨by (with_reducible repeat (first | refine Zk ?_ _ | refine Zj ?_ | refine Zi ?_ _)); refine blk_put (cs := #[.int .i64 a0_0, .slice none 0 0]) ?_ 1 _ rfl; (with_reducible repeat (first | refine Zk ?_ _ | refine Zj ?_ | refine Zi ?_ _)); refine blk_put (cs := #[.int .i64 0, .slice none 0 0]) ?_ 0 _ rfl; (with_reducible repeat (first | refine Zk ?_ _ | refine Zj ?_ | refine Zi ?_ _)); exact BK146.out⟩, ⟨hB_⟩⟩
 case round =>
  clear H'
  try clear c1
  try clear p2
  try clear c6
  try clear c9
  try clear c10
  try clear hcz11_0
  try clear hcz11_1
  try clear hcz7_0
  try clear hcz7_1
  try clear hfz11_0
  try clear hfz11_1
  try clear hfz7_0
  try clear hfz7_1
  obtain ⟨x9_1, x10_1, x147001_1, u147001, rfl, rfl, HA, HK1, HO_147001, BK144, BK145, BK146, HB⟩ := hrel
  cases gk with
  | zero => exact absurd HA.out (by simp [spec_AddAttack.l0])
  | succ k1 =>
   have H := HA.out
   clear HA
   simp only [spec_AddAttack.l0] at H
   have HC12 := Aside0.mk H
   clear H
   go_upto_region 4 with (fail)
   go_cut [23] (fun v23 wc => ∃ (kq : Nat) (x23_11 : Bool), v23 = .bool x23_11 ∧ Aside0 (spec_AddAttack.j1 kq a1 a2 x9_1 x10_1 x23_11 a0_0 l0_1 a0_0 x147001_1 = some (r1, r2, r3)) ∧ Aside0 (kq ≤ k1) ∧ Aside0 (Kd.S (Kd.slice 3 (Kd.int .i64)) 31 wc w.heap.size (fun _ => True) u147001 x147001_1) ∧ Aside0 (wc.heap[gb144]? = some (.cells #[.int .i64 a0_0, (.slice A0_1 l0_1.length c0_1)] 27 (0, 0))) ∧ Aside0 (wc.heap[gb145]? = some (.cells #[.int .i64 0, (.slice none 0 0)] 27 (0, 0))) ∧ Aside0 (wc.heap[gb146]? = some (.cells #[.int .i64 a0_0, u147001] 27 (0, 0))) ∧ Aside0 (Below w.heap.size w wc))
   case first =>
    have H := HC12.out
    clear HC12
    by_cases c13 : x10_1 < (l0_1.length : Int)
    rotate_left
    ·rw [if_neg c13] at H
     have c13b0 : decide (x10_1 < (l0_1.length : Int)) = false := decide_eq_false c13
     clear c13
     (first | rw [c13b0] | (simp only [i64_w, i32_w]; rw [c13b0]) | skip)
     have H' := Aside0.mk H
     clear H
     have hnb19 := NB144_145.out
     have hnc19 := NB145_144.out
     have hnb20 := NB144_146.out
     have hnc20 := NB146_144.out
     obtain ⟨hcz21_0, hcz21_1, hfz21_0, hfz21_1⟩ := c2_ BK144.out
     go_wp2
     go_meet
     case rel => exact ⟨_, (false), sm_, H', ⟨by have := HK1.out; first | omega | exact Nat.le_refl _⟩, ⟨rS_ HO_147001.out⟩, ⟨bk_ BK144.out⟩, ⟨bk_ BK145.out⟩, ⟨bk_ BK146.out⟩, ⟨hB_⟩⟩
    rw [if_pos c13] at H
    have c13b0 : decide (x10_1 < (l0_1.length : Int)) = true := decide_eq_true c13
    clear c13
    (first | rw [c13b0] | (simp only [i64_w, i32_w]; rw [c13b0]) | skip)
    obtain ⟨t147, A14, H⟩ := bd_ H
    try dsimp only at H
    have H' := Aside0.mk H
    clear H
    have hnb15 := NB144_145.out
    have hnc15 := NB145_144.out
    have hnb16 := NB144_146.out
    have hnc16 := NB146_144.out
    obtain ⟨hcz17_0, hcz17_1, hfz17_0, hfz17_1⟩ := c2_ BK144.out
    go_wp2_with (first | (go_at_call 57; (with_reducible refine (spec_IsGraph.calls k1 a0_0 _ _ l0_1 t147 _ ?side1 ?side2 A14.out).mono ?_); (case side1 => exact cb_ HR0_1.out); (case side2 => exact HC0_1.out); rintro e w18 ⟨rfl, hb⟩; replace HO_147001 := Aside0.mk (Kd.S_below (rS_ HO_147001.out) hb); replace BK144 := Aside0.mk (Zd (bq_ BK144.out) hb); replace BK145 := Aside0.mk (Zd (bq_ BK145.out) hb); replace BK146 := Aside0.mk (Zd (bq_ BK146.out) hb); replace HB := Aside0.mk (Zc hB_ hb); (try clear hb)))
    go_meet
    case rel => exact ⟨_, (t147), sm_, H', ⟨by have := HK1.out; first | omega | exact Nat.le_refl _⟩, ⟨rS_ HO_147001.out⟩, ⟨bk_ BK144.out⟩, ⟨bk_ BK145.out⟩, ⟨bk_ BK146.out⟩, ⟨hB_⟩⟩
   case rest =>
    clear HC12
    try clear c1
    try clear c2
    try clear p2
    try clear c6
    try clear c9
    try clear c10
    try clear c13
    try clear c13b0
    try clear c15
    try clear c16
    try clear c19
    try clear c20
    try clear hcz11_0
    try clear hcz11_1
    try clear hcz17_0
    try clear hcz17_1
    try clear hcz21_0
    try clear hcz21_1
    try clear hcz7_0
    try clear hcz7_1
    try clear hfz11_0
    try clear hfz11_1
    try clear hfz17_0
    try clear hfz17_1
    try clear hfz21_0
    try clear hfz21_1
    try clear hfz7_0
    try clear hfz7_1
    try clear p2
    obtain ⟨kq, x23_11, rfl, HA, HJ11, HO_147001, BK144, BK145, BK146, HB⟩ := hcut
    cases kq with
    | zero => exact absurd HA.out (by simp [spec_AddAttack.j1])
    | succ kj11 =>
     have H := HA.out
     clear HA
     simp only [spec_AddAttack.j1] at H
     by_cases c22 : x23_11 = true
     rotate_left
     ·replace c22 := Bool.eq_false_iff.mpr c22
      subst c22
      have H1 : (if x9_1 = true then (spec_AddAttack.j2 kj11 a0_0 l0_1 a0_0 x147001_1) else (if x147001_1.length < 5864062014805 then (spec_AddAttack.j2 kj11 a0_0 l0_1 a0_0 (x147001_1 ++ [(([a1, a2] : List Int))])) else (none))) = some (r1, r2, r3) := by rw [if_neg (show ¬ (false = true) by decide)] at H; exact H
      clear H
      have H := H1
      clear H1
      have HC116 := Aside0.mk H
      clear H
      go_upto_if 71 with (fail)
      go_cut [] (fun wc => ∃ (kq : Nat) (x147001_115 : List (List Int)) (u147001 : Value), Aside0 (spec_AddAttack.j2 kq a0_0 l0_1 a0_0 x147001_115 = some (r1, r2, r3)) ∧ Aside0 (kq ≤ kj11) ∧ Aside0 (Kd.S (Kd.slice 3 (Kd.int .i64)) 31 wc w.heap.size (fun _ => True) u147001 x147001_115) ∧ Aside0 (wc.heap[gb144]? = some (.cells #[.int .i64 a0_0, (.slice A0_1 l0_1.length c0_1)] 27 (0, 0))) ∧ Aside0 (wc.heap[gb145]? = some (.cells #[.int .i64 0, (.slice none 0 0)] 27 (0, 0))) ∧ Aside0 (wc.heap[gb146]? = some (.cells #[.int .i64 a0_0, u147001] 27 (0, 0))) ∧ Aside0 (Below w.heap.size w wc))
      case first =>
       have H := HC116.out
       clear HC116
       by_cases c117 : x9_1 = true
       ·subst c117
        have H1 : (spec_AddAttack.j2 kj11 a0_0 l0_1 a0_0 x147001_1) = some (r1, r2, r3) := by rw [if_pos rfl] at H; exact H
        clear H
        have H := H1
        clear H1
        have H' := Aside0.mk H
        clear H
        go_wp2
        go_meet
        case rel => exact ⟨_, (x147001_1), (u147001), H', ⟨by have := HK1.out; have := HJ11.out; first | omega | exact Nat.le_refl _⟩, ⟨rS_ HO_147001.out⟩, ⟨bk_ BK144.out⟩, ⟨bk_ BK145.out⟩, ⟨bk_ BK146.out⟩, ⟨hB_⟩⟩
       replace c117 := Bool.eq_false_iff.mpr c117
       subst c117
       have H1 : (if x147001_1.length < 5864062014805 then (spec_AddAttack.j2 kj11 a0_0 l0_1 a0_0 (x147001_1 ++ [(([a1, a2] : List Int))])) else (none)) = some (r1, r2, r3) := by rw [if_neg (show ¬ (false = true) by decide)] at H; exact H
       clear H
       have H := H1
       clear H1
       obtain ⟨y209, hy209⟩ : ∃ y_ : List Int, y_ = (([a1, a2] : List Int)) := ⟨_, rfl⟩
       replace H : (if x147001_1.length < 5864062014805 then (spec_AddAttack.j2 kj11 a0_0 l0_1 a0_0 (x147001_1 ++ [y209])) else (none)) = some (r1, r2, r3) := hy_ hy209 H
       have Ny209 := Aside0.mk hy209
       clear hy209
       by_cases c118 : x147001_1.length < 5864062014805
       rotate_left
       ·rw [if_neg c118] at H
        exact absurd H (by simp)
       rw [if_pos c118] at H
       have LMc118 := Aside0.mk c118
       clear c118
       obtain ⟨y212, hy212⟩ : ∃ y_ : List (List Int), y_ = (x147001_1 ++ [y209]) := ⟨_, rfl⟩
       replace H : (spec_AddAttack.j2 kj11 a0_0 l0_1 a0_0 y212) = some (r1, r2, r3) := hy_ hy212 H
       have Ny212 := Aside0.mk hy212
       clear hy212
       have H' := Aside0.mk H
       clear H
       have hnb119 := NB146_144.out
       have hnc119 := NB144_146.out
       have hnb120 := NB146_145.out
       have hnc120 := NB145_146.out
       obtain ⟨hcz121_0, hcz121_1, hfz121_0, hfz121_1⟩ := c2_ BK146.out
       go_wp2_with (first | ((with_reducible refine Zz (N := 76) rfl ?_); refine Kd.R_lit (Kd.int .i64) _ 3 ?hg (N := 76) ?hd (xs := ([a1, a2] : List Int)) (inner := [.int .i64 a1, .int .i64 a2]) (ok := fun _ => True) (okp := fun _ => True) ?hr ?hp (fun _ hk => hk) trivial (Below.refl _ _) (Nat.le_refl _) (by simp) ?_; (case hd => rfl); (case hg => rfl); (case hr => first | (go_simp; done) | (go_simp; rfl)); (case hp => exact (Reps.one (show Kd.M (Kd.int .i64) _ _ _ a1 [.int .i64 a1] from rfl) (Reps.one (show Kd.M (Kd.int .i64) _ _ _ a2 [.int .i64 a2] from rfl) (Reps.none _ _)))); intro v210 w122 ho123 hb hg_ hnew_; clear hg_ hnew_; (first | rw [← Ny209.out] at ho123 | (simp only [Int.reduceToNat] at ho123; rw [← Ny209.out] at ho123)); replace HO_147001 := Aside0.mk (Kd.S_elder' (rS_ HO_147001.out) (Kd.R_base ho123) hb); have HO211 := Aside0.mk (Kd.R_lower ho123 (Ze hB_)); replace BK144 := Aside0.mk (Zd (bq_ BK144.out) hb); replace BK145 := Aside0.mk (Zd (bq_ BK145.out) hb); replace BK146 := Aside0.mk (Zd (bq_ BK146.out) hb); replace HB := Aside0.mk (Zc hB_ hb); clear hb ho123; obtain ⟨Ao125, co125, eo125⟩ := Kd.R_slice HO211.out; subst eo125) | ((with_reducible refine gate_builtin (b := .append) (xs := #[.tmp 73, .tmp 77]) rfl ?_); at_builtin; refine Kd.S_append (Kd.slice 3 (Kd.int .i64)) (w0 := w) w.heap.size rfl (.tmp 73) (.tmp 77) 22 31 (.slice none 0 0) 24 rfl Try.underlying22 info31 rfl (by decide) (by omega) u147001 x147001_1 y209 [.slice Ao125 y209.length co125] (fun _ => True) (fun k_ => some k_ = (.slice Ao125 y209.length co125 : Value).ownBlock) rfl rfl ?aP (fun k_ hk_ => ((ZK (ok' := fun k_ => ((fun _ => True)) k_ ∧ some k_ ≠ (u147001 : Value).ownBlock) (ZN (HO211.out) (Kd.S_typed HO_147001.out) (by decide)) (fun k_ hk => ⟨trivial, hk.2⟩))).1 k_ hk_.symm) ?aF ?aO ?aB ?aS ?aL ?_; (case aP => exact Kd.M_row (ZK (Kd.R_tight rfl (ZK (ok' := fun k_ => ((fun _ => True)) k_ ∧ some k_ ≠ (u147001 : Value).ownBlock) (ZN (HO211.out) (Kd.S_typed HO_147001.out) (by decide)) (fun k_ hk => ⟨trivial, hk.2⟩))) (fun _ h_ => h_))); (case aB => exact hB_); (case aF => exact (fun _ _ => trivial)); (case aO => exact (by (with_reducible repeat (first | apply Kd.S_alloc | apply Kd.S_drewN | apply Kd.S_drew)); exact ZT HO_147001.out (fun k_ hk => ⟨trivial, fun e_ => hk.2 e_⟩))); (case aS => exact (Ze hB_)); (case aL => have := LMc118.out; omega); intro v213 w124 ho hb hg hat; rw [← Ny212.out] at ho; have n0_ := Aside0.mk (ZJ (bq_ BK144.out) hg (Kd.S_ne HO_147001.out BK144.out (by decide))); have n1_ := Aside0.mk (ZJ (bq_ BK145.out) hg (Kd.S_ne HO_147001.out BK145.out (by decide))); have n2_ := Aside0.mk (ZJ (bq_ BK146.out) hg (Kd.S_ne HO_147001.out BK146.out (by decide))); have n3_ := Aside0.mk (hb); have n4_ := Aside0.mk (ho); clear BK144; clear BK145; clear BK146; clear HB; clear HO_147001; clear HO211; have BK144 := n0_; have BK145 := n1_; have BK146 := n2_; have HB := n3_; have HO214 := n4_; clear n0_ n1_ n2_ n3_ n4_; clear ho hb hg hat; obtain ⟨Ao126, co126, eo126⟩ := Kd.S_slice HO214.out; subst eo126; obtain ⟨hcz127_0, hcz127_1, hfz127_0, hfz127_1⟩ := c2_ BK146.out))
       go_meet
       case rel => exact ⟨_, (y212), (.slice Ao126 y212.length co126), H', ⟨by have := HK1.out; have := HJ11.out; first | omega | exact Nat.le_refl _⟩, ⟨by (with_reducible repeat (first | apply Kd.S_alloc | apply Kd.S_drewN | apply Kd.S_drew)); exact ZT (Kd.S_far (p := ⟨gb146, 1, none⟩) (Kd.S_types HO214.out BK146.out (by decide)) (fun _ hk => hk.2) (.slice Ao126 y212.length co126)) (fun _ hk => trivial)⟩, ⟨by (with_reducible repeat (first | refine Zk ?_ _ | refine Zj ?_ | refine Zi ?_ _)); refine blk_far ?_ NB144_146.out _; (with_reducible repeat (first | refine Zk ?_ _ | refine Zj ?_ | refine Zi ?_ _)); exact BK144.out⟩, ⟨by (with_reducible repeat (first | refine Zk ?_ _ | refine Zj ?_ | refine Zi ?_ _)); refine blk_far ?_ NB145_146.out _; (with_reducible repeat (first | refine Zk ?_ _ | refine Zj ?_ | refine Zi ?_ _)); exact BK145.out⟩, ⟨by (with_reducible repeat (first | refine Zk ?_ _ | refine Zj ?_ | refine Zi ?_ _)); refine blk_put (cs := #[.int .i64 a0_0, u147001]) ?_ 1 _ rfl; (with_reducible repeat (first | refine Zk ?_ _ | refine Zj ?_ | refine Zi ?_ _)); exact BK146.out⟩, ⟨hB_⟩⟩
      case rest =>
       clear HC116
       try clear c1
       try clear p1
       try clear q1
       try clear hx1
       try clear qi1
       try clear c2
       try clear p2
       try clear c3
       try clear c6
       try clear p6
       try clear c9
       try clear c10
       try clear c11
       try clear c12
       try clear c14
       try clear p14
       try clear q14
       try clear hx14
       try clear p15
       try clear q15
       try clear hx15
       try clear qi15
       try clear p17
       try clear q17
       try clear hx17
       try clear qi17
       try clear c22
       try clear c23
       try clear c24
       try clear c39
       try clear c64
       try clear c64b0
       try clear c64b1
       try clear p64
       try clear c65
       try clear c66
       try clear c66b0
       try clear c67
       try clear c68
       try clear c69
       try clear c90
       try clear c91
       try clear c92
       try clear c93
       try clear c103
       try clear c104
       try clear c105
       try clear c106
       try clear c117
       try clear c118
       try clear c119
       try clear c120
       try clear hcz107_0
       try clear hcz107_1
       try clear hcz121_0
       try clear hcz121_1
       try clear hcz127_0
       try clear hcz127_1
       try clear hcz94_0
       try clear hcz94_1
       try clear hfz107_0
       try clear hfz107_1
       try clear hfz121_0
       try clear hfz121_1
       try clear hfz127_0
       try clear hfz127_1
       try clear hfz94_0
       try clear hfz94_1
       try clear hx148_0
       try clear hx158_0
       try clear hx174_0
       try clear hx175_0
       try clear p148
       try clear p158
       try clear p174
       try clear p175
       try clear q148
       try clear q158
       try clear q174
       try clear q175
       obtain ⟨kq, x147001_115, u147001, HA, HJ115, HO_147001, BK144, BK145, BK146, HB⟩ := hcut
       cases kq with
       | zero => exact absurd HA.out (by simp [spec_AddAttack.j2])
       | succ kj115 =>
        have H := HA.out
        clear HA
        simp only [spec_AddAttack.j2] at H
        obtain ⟨t215, A128, H⟩ := bd_ H
        try dsimp only at H
        by_cases c129 : t215 = true
        rotate_left
        ·replace c129 := Bool.eq_false_iff.mpr c129
         subst c129
         have H1 : ((spec_l4Copy.f kj115 a0_0 l0_1).bind fun bt221 => (some (bt221.1, bt221.2, false))) = some (r1, r2, r3) := by rw [if_neg (show ¬ (false = true) by decide)] at H; exact H
         clear H
         have H := H1
         clear H1
         obtain ⟨⟨t221, t222⟩, A155, H⟩ := bd_ H
         try dsimp only at H
         simp only [Option.some.injEq, Prod.mk.injEq] at H
         obtain ⟨rfl, rfl, rfl⟩ := H
         have hnb156 := NB144_145.out
         have hnc156 := NB145_144.out
         have hnb157 := NB144_146.out
         have hnc157 := NB146_144.out
         obtain ⟨hcz158_0, hcz158_1, hfz158_0, hfz158_1⟩ := c2_ BK144.out
         go_wp2_with (first | ((with_reducible refine Zf (f := 57) rfl ?_); refine ZC (some 81) rfl rfl Try.func57 (by kernel_rfl) rfl #[.agg #[.int .i64 a0_0, .slice A0_1 l0_1.length c0_1]] rfl ar_ ?_; (with_reducible refine (spec_IsGraph.calls kj115 a0_0 _ _ l0_1 false _ ?side1 ?side2 A128.out).mono ?_); (case side1 => exact cb_ HR0_1.out); (case side2 => exact HC0_1.out); rintro e w159 ⟨rfl, hb⟩; refine ⟨_, rfl, ?_⟩; replace HO_147001 := Aside0.mk (Kd.S_below (rS_ HO_147001.out) hb); replace BK144 := Aside0.mk (Zd (bq_ BK144.out) hb); replace BK145 := Aside0.mk (Zd (bq_ BK145.out) hb); replace BK146 := Aside0.mk (Zd (bq_ BK146.out) hb); replace HB := Aside0.mk (Zc hB_ hb); (try clear hb); obtain ⟨hcz160_0, hcz160_1, hfz160_0, hfz160_1⟩ := c2_ BK144.out) | ((with_reducible refine Zf (f := 92) rfl ?_); refine ZC (some 89) rfl rfl Try.func92 (by kernel_rfl) rfl #[.agg #[.int .i64 a0_0, .slice A0_1 l0_1.length c0_1]] rfl ar_ ?_; (with_reducible refine (spec_l4Copy.calls kj115 a0_0 _ _ l0_1 t221 t222 _ ?side1 ?side2 A155.out).mono ?_); (case side1 => exact cb_ HR0_1.out); (case side2 => exact HC0_1.out); rintro e w161 ⟨v223, rfl, ho0, hb⟩; refine ⟨_, rfl, ?_⟩; have HO224 := Aside0.mk (Kd.S_lower (Kd.S_new' ho0 (Kd.S_lt (rS_ HO_147001.out))) (Ze hB_)); replace HO_147001 := Aside0.mk (Kd.S_elder' (rS_ HO_147001.out) (Kd.S_base ho0) hb); replace BK144 := Aside0.mk (Zd (bq_ BK144.out) hb); replace BK145 := Aside0.mk (Zd (bq_ BK145.out) hb); replace BK146 := Aside0.mk (Zd (bq_ BK146.out) hb); replace HB := Aside0.mk (Zc hB_ hb); (try clear hb); (try clear ho0); have hnb162 := NB145_146.out; have hnc162 := NB146_145.out; obtain ⟨hcz163_0, hcz163_1, hfz163_0, hfz163_1⟩ := c2_ BK145.out; obtain ⟨Ao164, co164, eo164⟩ := Kd.S_slice HO224.out; subst eo164))
         refine bodyPost_ret (results_ct rfl _ _ gb145 27 #[.int .i64 t221, .slice Ao164 t222.length co164] (0, 0) _ rfl (by (with_reducible repeat (first | refine Zk ?_ _ | refine Zj ?_ | refine Zi ?_ _)); refine blk_put (cs := #[.int .i64 t221, .slice none 0 0]) ?_ 1 _ rfl; (with_reducible repeat (first | refine Zk ?_ _ | refine Zj ?_ | refine Zi ?_ _)); refine blk_put (cs := #[.int .i64 0, .slice none 0 0]) ?_ 0 _ rfl; (with_reducible repeat (first | refine Zk ?_ _ | refine Zj ?_ | refine Zi ?_ _)); exact BK145.out) Try.underlying27 rfl (by kernel_rfl)) rfl ?_
         exact ⟨_, er_, by (with_reducible repeat (first | apply Kd.S_alloc | apply Kd.S_drewN | apply Kd.S_drew)); exact ZT (Kd.S_far (p := ⟨gb145, 1, none⟩) (Kd.S_far (p := ⟨gb145, 0, none⟩) (Kd.S_types HO224.out BK145.out (by decide)) (fun _ hk => hk.2) (.int .i64 t221)) (fun _ hk => hk.2) (.slice Ao164 t222.length co164)) (fun _ hk => trivial), hB_⟩
        subst c129
        have H1 : ((spec_IsGraph.f kj115 a0_0 x147001_115).bind fun t216 => (if t216 = true then (some (a0_0, x147001_115, true)) else ((spec_l4Copy.f kj115 a0_0 l0_1).bind fun bt217 => (some (bt217.1, bt217.2, false))))) = some (r1, r2, r3) := by rw [if_pos rfl] at H; exact H
        clear H
        have H := H1
        clear H1
        obtain ⟨t216, A130, H⟩ := bd_ H
        try dsimp only at H
        by_cases c131 : t216 = true
        ·subst c131
         have H1 : (some (a0_0, x147001_115, true)) = some (r1, r2, r3) := by rw [if_pos rfl] at H; exact H
         clear H
         have H := H1
         clear H1
         simp only [Option.some.injEq, Prod.mk.injEq] at H
         obtain ⟨rfl, rfl, rfl⟩ := H
         have hnb132 := NB144_145.out
         have hnc132 := NB145_144.out
         have hnb133 := NB144_146.out
         have hnc133 := NB146_144.out
         obtain ⟨hcz134_0, hcz134_1, hfz134_0, hfz134_1⟩ := c2_ BK144.out
         go_wp2_with (first | ((with_reducible refine Zf (f := 57) rfl ?_); refine ZC (some 81) rfl rfl Try.func57 (by kernel_rfl) rfl #[.agg #[.int .i64 a0_0, .slice A0_1 l0_1.length c0_1]] rfl ar_ ?_; (with_reducible refine (spec_IsGraph.calls kj115 a0_0 _ _ l0_1 true _ ?side1 ?side2 A128.out).mono ?_); (case side1 => exact cb_ HR0_1.out); (case side2 => exact HC0_1.out); rintro e w135 ⟨rfl, hb⟩; refine ⟨_, rfl, ?_⟩; replace HO_147001 := Aside0.mk (Kd.S_below (rS_ HO_147001.out) hb); replace BK144 := Aside0.mk (Zd (bq_ BK144.out) hb); replace BK145 := Aside0.mk (Zd (bq_ BK145.out) hb); replace BK146 := Aside0.mk (Zd (bq_ BK146.out) hb); replace HB := Aside0.mk (Zc hB_ hb); (try clear hb); have hnb136 := NB146_145.out; have hnc136 := NB145_146.out; obtain ⟨hcz137_0, hcz137_1, hfz137_0, hfz137_1⟩ := c2_ BK146.out; obtain ⟨Ao138, co138, eo138⟩ := Kd.S_slice HO_147001.out; subst eo138) | (go_at_call 57; (with_reducible refine (spec_IsGraph.calls kj115 a0_0 _ _ x147001_115 true _ ?side1 ?side2 A130.out).mono ?_); (case side1 => exact sA_ (Kd.S_reads' HO_147001.out).2.2); (case side2 => exact (Kd.S_reads' HO_147001.out).2.1); rintro e w139 ⟨rfl, hb⟩; replace HO_147001 := Aside0.mk (Kd.S_below (rS_ HO_147001.out) hb); replace BK144 := Aside0.mk (Zd (bq_ BK144.out) hb); replace BK145 := Aside0.mk (Zd (bq_ BK145.out) hb); replace BK146 := Aside0.mk (Zd (bq_ BK146.out) hb); replace HB := Aside0.mk (Zc hB_ hb); (try clear hb); obtain ⟨hcz140_0, hcz140_1, hfz140_0, hfz140_1⟩ := c2_ BK146.out; obtain ⟨hcz141_0, hcz141_1, hfz141_0, hfz141_1⟩ := c2_ BK145.out))
         refine bodyPost_ret (results_ct rfl _ _ gb145 27 #[.int .i64 a0_0, .slice Ao138 x147001_115.length co138] (0, 0) _ rfl (by (with_reducible repeat (first | refine Zk ?_ _ | refine Zj ?_ | refine Zi ?_ _)); refine blk_put (cs := #[.int .i64 a0_0, .slice none 0 0]) ?_ 1 _ rfl; (with_reducible repeat (first | refine Zk ?_ _ | refine Zj ?_ | refine Zi ?_ _)); refine blk_put (cs := #[.int .i64 0, .slice none 0 0]) ?_ 0 _ rfl; (with_reducible repeat (first | refine Zk ?_ _ | refine Zj ?_ | refine Zi ?_ _)); exact BK145.out) Try.underlying27 rfl (by kernel_rfl)) rfl ?_
         exact ⟨_, er_, by (with_reducible repeat (first | apply Kd.S_alloc | apply Kd.S_drewN | apply Kd.S_drew)); exact ZT (Kd.S_far (p := ⟨gb145, 1, none⟩) (Kd.S_far (p := ⟨gb145, 0, none⟩) (Kd.S_types HO_147001.out BK145.out (by decide)) (fun _ hk => hk.2) (.int .i64 a0_0)) (fun _ hk => hk.2) (.slice Ao138 x147001_115.length co138)) (fun _ hk => trivial), hB_⟩
        replace c131 := Bool.eq_false_iff.mpr c131
        subst c131
        have H1 : ((spec_l4Copy.f kj115 a0_0 l0_1).bind fun bt217 => (some (bt217.1, bt217.2, false))) = some (r1, r2, r3) := by rw [if_neg (show ¬ (false = true) by decide)] at H; exact H
        clear H
        have H := H1
        clear H1
        obtain ⟨⟨t217, t218⟩, A142, H⟩ := bd_ H
        try dsimp only at H
        simp only [Option.some.injEq, Prod.mk.injEq] at H
        obtain ⟨rfl, rfl, rfl⟩ := H
        have hnb143 := NB144_145.out
        have hnc143 := NB145_144.out
        have hnb144 := NB144_146.out
        have hnc144 := NB146_144.out
        obtain ⟨hcz145_0, hcz145_1, hfz145_0, hfz145_1⟩ := c2_ BK144.out
        go_wp2_with (first | ((with_reducible refine Zf (f := 57) rfl ?_); refine ZC (some 81) rfl rfl Try.func57 (by kernel_rfl) rfl #[.agg #[.int .i64 a0_0, .slice A0_1 l0_1.length c0_1]] rfl ar_ ?_; (with_reducible refine (spec_IsGraph.calls kj115 a0_0 _ _ l0_1 true _ ?side1 ?side2 A128.out).mono ?_); (case side1 => exact cb_ HR0_1.out); (case side2 => exact HC0_1.out); rintro e w146 ⟨rfl, hb⟩; refine ⟨_, rfl, ?_⟩; replace HO_147001 := Aside0.mk (Kd.S_below (rS_ HO_147001.out) hb); replace BK144 := Aside0.mk (Zd (bq_ BK144.out) hb); replace BK145 := Aside0.mk (Zd (bq_ BK145.out) hb); replace BK146 := Aside0.mk (Zd (bq_ BK146.out) hb); replace HB := Aside0.mk (Zc hB_ hb); (try clear hb); have hnb147 := NB146_145.out; have hnc147 := NB145_146.out; obtain ⟨hcz148_0, hcz148_1, hfz148_0, hfz148_1⟩ := c2_ BK146.out; obtain ⟨Ao149, co149, eo149⟩ := Kd.S_slice HO_147001.out; subst eo149) | (go_at_call 57; (with_reducible refine (spec_IsGraph.calls kj115 a0_0 _ _ x147001_115 false _ ?side1 ?side2 A130.out).mono ?_); (case side1 => exact sA_ (Kd.S_reads' HO_147001.out).2.2); (case side2 => exact (Kd.S_reads' HO_147001.out).2.1); rintro e w150 ⟨rfl, hb⟩; replace HO_147001 := Aside0.mk (Kd.S_below (rS_ HO_147001.out) hb); replace BK144 := Aside0.mk (Zd (bq_ BK144.out) hb); replace BK145 := Aside0.mk (Zd (bq_ BK145.out) hb); replace BK146 := Aside0.mk (Zd (bq_ BK146.out) hb); replace HB := Aside0.mk (Zc hB_ hb); (try clear hb); obtain ⟨hcz151_0, hcz151_1, hfz151_0, hfz151_1⟩ := c2_ BK144.out) | ((with_reducible refine Zf (f := 92) rfl ?_); refine ZC (some 89) rfl rfl Try.func92 (by kernel_rfl) rfl #[.agg #[.int .i64 a0_0, .slice A0_1 l0_1.length c0_1]] rfl ar_ ?_; (with_reducible refine (spec_l4Copy.calls kj115 a0_0 _ _ l0_1 t217 t218 _ ?side1 ?side2 A142.out).mono ?_); (case side1 => exact cb_ HR0_1.out); (case side2 => exact HC0_1.out); rintro e w152 ⟨v219, rfl, ho0, hb⟩; refine ⟨_, rfl, ?_⟩; have HO220 := Aside0.mk (Kd.S_lower (Kd.S_new' ho0 (Kd.S_lt (rS_ HO_147001.out))) (Ze hB_)); replace HO_147001 := Aside0.mk (Kd.S_elder' (rS_ HO_147001.out) (Kd.S_base ho0) hb); replace BK144 := Aside0.mk (Zd (bq_ BK144.out) hb); replace BK145 := Aside0.mk (Zd (bq_ BK145.out) hb); replace BK146 := Aside0.mk (Zd (bq_ BK146.out) hb); replace HB := Aside0.mk (Zc hB_ hb); (try clear hb); (try clear ho0); obtain ⟨hcz153_0, hcz153_1, hfz153_0, hfz153_1⟩ := c2_ BK145.out; obtain ⟨Ao154, co154, eo154⟩ := Kd.S_slice HO220.out; subst eo154))
        refine bodyPost_ret (results_ct rfl _ _ gb145 27 #[.int .i64 t217, .slice Ao154 t218.length co154] (0, 0) _ rfl (by (with_reducible repeat (first | refine Zk ?_ _ | refine Zj ?_ | refine Zi ?_ _)); refine blk_put (cs := #[.int .i64 t217, .slice none 0 0]) ?_ 1 _ rfl; (with_reducible repeat (first | refine Zk ?_ _ | refine Zj ?_ | refine Zi ?_ _)); refine blk_put (cs := #[.int .i64 0, .slice none 0 0]) ?_ 0 _ rfl; (with_reducible repeat (first | refine Zk ?_ _ | refine Zj ?_ | refine Zi ?_ _)); exact BK145.out) Try.underlying27 rfl (by kernel_rfl)) rfl ?_
        exact ⟨_, er_, by (with_reducible repeat (first | apply Kd.S_alloc | apply Kd.S_drewN | apply Kd.S_drew)); exact ZT (Kd.S_far (p := ⟨gb145, 1, none⟩) (Kd.S_far (p := ⟨gb145, 0, none⟩) (Kd.S_types HO220.out BK145.out (by decide)) (fun _ hk => hk.2) (.int .i64 t217)) (fun _ hk => hk.2) (.slice Ao154 t218.length co154)) (fun _ hk => trivial), hB_⟩
     subst c22
     have H1 : (if 0 ≤ x10_1 then (if x10_1 < (l0_1.length : Int) then (if x9_1 = true then ((some (([] : List Int) : List Int)).bind fun y149 => (if y149.length + (rd_L2 l0_1 x10_1).length < 17592186044416 then (if x147001_1.length < 5864062014805 then (spec_AddAttack.l0 kj11 a1 a2 x9_1 (wrap64 (x10_1 + 1)) a0_0 l0_1 a0_0 (x147001_1 ++ [(y149 ++ (rd_L2 l0_1 x10_1))])) else (none)) else (none))) else (if 0 < ((rd_L2 l0_1 x10_1).length : Int) then (if (rd (rd_L2 l0_1 x10_1) 0) > a1 then (if x147001_1.length < 5864062014805 then ((some (x147001_1 ++ [(([a1, a2] : List Int))] : List (List Int))).bind fun y162 => ((some (([] : List Int) : List Int)).bind fun y165 => (if y165.length + (rd_L2 l0_1 x10_1).length < 17592186044416 then (if y162.length < 5864062014805 then (spec_AddAttack.l0 kj11 a1 a2 true (wrap64 (x10_1 + 1)) a0_0 l0_1 a0_0 (y162 ++ [(y165 ++ (rd_L2 l0_1 x10_1))])) else (none)) else (none)))) else (none)) else (if (rd (rd_L2 l0_1 x10_1) 0) = a1 then (if 1 < ((rd_L2 l0_1 x10_1).length : Int) then (if (rd (rd_L2 l0_1 x10_1) 1) > a2 then (if x147001_1.length < 5864062014805 then ((some (x147001_1 ++ [(([a1, a2] : List Int))] : List (List Int))).bind fun y179 => ((some (([] : List Int) : List Int)).bind fun y182 => (if y182.length + (rd_L2 l0_1 x10_1).length < 17592186044416 then (if y179.length < 5864062014805 then (spec_AddAttack.l0 kj11 a1 a2 true (wrap64 (x10_1 + 1)) a0_0 l0_1 a0_0 (y179 ++ [(y182 ++ (rd_L2 l0_1 x10_1))])) else (none)) else (none)))) else (none)) else ((some (([] : List Int) : List Int)).bind fun y191 => (if y191.length + (rd_L2 l0_1 x10_1).length < 17592186044416 then (if x147001_1.length < 5864062014805 then (spec_AddAttack.l0 kj11 a1 a2 x9_1 (wrap64 (x10_1 + 1)) a0_0 l0_1 a0_0 (x147001_1 ++ [(y191 ++ (rd_L2 l0_1 x10_1))])) else (none)) else (none)))) else (none)) else ((some (([] : List Int) : List Int)).bind fun y200 => (if y200.length + (rd_L2 l0_1 x10_1).length < 17592186044416 then (if x147001_1.length < 5864062014805 then (spec_AddAttack.l0 kj11 a1 a2 x9_1 (wrap64 (x10_1 + 1)) a0_0 l0_1 a0_0 (x147001_1 ++ [(y200 ++ (rd_L2 l0_1 x10_1))])) else (none)) else (none))))) else (none))) else (none)) else (none)) = some (r1, r2, r3) := by rw [if_pos rfl] at H; exact H
     clear H
     have H := H1
     clear H1
     by_cases c23 : 0 ≤ x10_1
     rotate_left
     ·rw [if_neg c23] at H
      exact absurd H (by simp)
     rw [if_pos c23] at H
     have c23b0 : decide (0 ≤ x10_1) = true := decide_eq_true c23
     clear c23
     by_cases c24 : x10_1 < (l0_1.length : Int)
     rotate_left
     ·rw [if_neg c24] at H
      exact absurd H (by simp)
     rw [if_pos c24] at H
     have c24b0 : decide (x10_1 < (l0_1.length : Int)) = true := decide_eq_true c24
     clear c24
     by_cases c25 : x9_1 = true
     ·subst c25
      have H1 : ((some (([] : List Int) : List Int)).bind fun y149 => (if y149.length + (rd_L2 l0_1 x10_1).length < 17592186044416 then (if x147001_1.length < 5864062014805 then (spec_AddAttack.l0 kj11 a1 a2 true (wrap64 (x10_1 + 1)) a0_0 l0_1 a0_0 (x147001_1 ++ [(y149 ++ (rd_L2 l0_1 x10_1))])) else (none)) else (none))) = some (r1, r2, r3) := by rw [if_pos rfl] at H; exact H
      clear H
      have H := H1
      clear H1
      obtain ⟨y149, hy149⟩ : ∃ y_ : List Int, y_ = (([] : List Int)) := ⟨_, rfl⟩
      replace H : (if y149.length + (rd_L2 l0_1 x10_1).length < 17592186044416 then (if x147001_1.length < 5864062014805 then (spec_AddAttack.l0 kj11 a1 a2 true (wrap64 (x10_1 + 1)) a0_0 l0_1 a0_0 (x147001_1 ++ [(y149 ++ (rd_L2 l0_1 x10_1))])) else (none)) else (none)) = some (r1, r2, r3) := hy_ hy149 H
      have Ny149 := Aside0.mk hy149
      clear hy149
      by_cases c26 : y149.length + (rd_L2 l0_1 x10_1).length < 17592186044416
      rotate_left
      ·rw [if_neg c26] at H
       exact absurd H (by simp)
      rw [if_pos c26] at H
      have LMc26 := Aside0.mk c26
      clear c26
      obtain ⟨y152, hy152⟩ : ∃ y_ : List Int, y_ = (y149 ++ (rd_L2 l0_1 x10_1)) := ⟨_, rfl⟩
      replace H : (if x147001_1.length < 5864062014805 then (spec_AddAttack.l0 kj11 a1 a2 true (wrap64 (x10_1 + 1)) a0_0 l0_1 a0_0 (x147001_1 ++ [y152])) else (none)) = some (r1, r2, r3) := hy_ hy152 H
      have Ny152 := Aside0.mk hy152
      clear hy152
      by_cases c27 : x147001_1.length < 5864062014805
      rotate_left
      ·rw [if_neg c27] at H
       exact absurd H (by simp)
      rw [if_pos c27] at H
      have LMc27 := Aside0.mk c27
      clear c27
      obtain ⟨y155, hy155⟩ : ∃ y_ : List (List Int), y_ = (x147001_1 ++ [y152]) := ⟨_, rfl⟩
      replace H : (spec_AddAttack.l0 kj11 a1 a2 true (wrap64 (x10_1 + 1)) a0_0 l0_1 a0_0 y155) = some (r1, r2, r3) := hy_ hy155 H
      have Ny155 := Aside0.mk hy155
      clear hy155
      have H' := Aside0.mk H
      clear H
      have hnb28 := NB144_145.out
      have hnc28 := NB145_144.out
      have hnb29 := NB144_146.out
      have hnc29 := NB146_144.out
      obtain ⟨hcz30_0, hcz30_1, hfz30_0, hfz30_1⟩ := c2_ BK144.out
      have p148 : 0 ≤ (x10_1 : Int) := of_decide_eq_true as_
      have q148 : x10_1 < (l0_1.length : Int) := of_decide_eq_true as_
      obtain ⟨ad148, A148_0, c148_0, e148, hx148_0, hl148_0, hi148_0⟩ := at_L2 HR0_1.out x10_1 p148 q148
      cases e148
      replace hx148_0 := (HB.out.cell (World.block_lt_of_cell? w _ hx148_0)).trans hx148_0
      have HR148_0 := Aside0.mk hi148_0
      have HC148_0 := Aside0.mk hl148_0
      clear hi148_0 hl148_0
      replace p148 := eq_true p148
      replace q148 := eq_true q148
      try go_wp2
      replace HO_147001 := Aside0.mk (Kd.S_drew HO_147001.out)
      replace BK144 := Aside0.mk (Zj BK144.out)
      replace BK145 := Aside0.mk (Zj BK145.out)
      replace BK146 := Aside0.mk (Zj BK146.out)
      replace HB := Aside0.mk (Zq HB.out)
      refine start_ (n := 9) (S := fun w' => w'.cell? ⟨gb146, 0, none⟩ = some (.int .i64 a0_0) ∧ w'.cell? ⟨gb146, 1, none⟩ = some (u147001)) (ds := [8]) (m_ 9 0) (by kernel_rfl) rfl rfl ⟨(Za BK146.out 0).trans rfl, (Za BK146.out 1).trans rfl⟩ (fun hHeld => ?_); refine with_tabW spec_AddAttack.tab10 spec_AddAttack.bits10 (fun HT_ HW_ => ?_)
      generalize wc.drew = w31 at HO_147001 BK144 BK145 BK146 HB hHeld ⊢
      refine pu_ 0 62 (m_ 9 1) ?_
      refine pu_ 3 65 (m_ 9 9) ?_
      refine tk2_ 1 63 (m_ 9 11) hHeld ?_
      refine on_ 2 64 (m_ 9 15) (fun K hK => ?_)
      refine Kd.R_lit_step (Kd.int .i64) _ 3 ?hg (N := 64) ?hd (xs := ([] : List Int)) (inner := []) (ok := fun _ => True) (okp := fun _ => True) ?hr ?hp (fun _ hk => hk) trivial (Below.refl _ _) (Nat.le_refl _) (by simp) ?_; (case hd => rfl); (case hg => rfl); (case hr => first | (go_simp; done) | (go_simp; rfl)); (case hp => exact (Reps.none _ _))
      intro v150 w32 ho33 hb hg_ hnew_
      clear hg_ hnew_
      (first | rw [← Ny149.out] at ho33 | (simp only [Int.reduceToNat] at ho33; rw [← Ny149.out] at ho33))
      replace HO_147001 := Aside0.mk (Kd.S_elder' (rS_ HO_147001.out) (Kd.R_base ho33) hb)
      have HO151 := Aside0.mk (Kd.R_lower ho33 (Ze hB_))
      replace BK144 := Aside0.mk (Zd (bq_ BK144.out) hb)
      replace BK145 := Aside0.mk (Zd (bq_ BK145.out) hb)
      replace BK146 := Aside0.mk (Zd (bq_ BK146.out) hb)
      replace HB := Aside0.mk (Zc hB_ hb)
      clear hb ho33
      refine hK.out _ _ ⟨(Za BK146.out 0).trans rfl, (Za BK146.out 1).trans rfl⟩ (fun hHeld => ?_)
      clear hK K
      refine no_ 64 ?_
      refine on_ 4 66 (m_ 9 31) (fun K hK => ?_)
      refine Kd.R_append_rows_step (Kd.int .i64) (w0 := w) w.heap.size (by rfl) (.tmp 64) (.tmp 65) 31 3 (.int .i64 0) 8 rfl Try.underlying31 info3 rfl (by decide) (by omega) v150 y149 (rd_L2 l0_1 x10_1) _ _ _ (fun _ => True) (fun _ => False) rfl rfl ?aO ?aR (fun _ _ h => h) (fun _ h => h.elim) ?aF ?aB ?aS ?aL ?_
      (case aR => exact cb_ HR148_0.out)
      (case aB => exact hB_)
      (case aF => exact (fun _ _ => trivial))
      (case aO => exact (rR_ HO151.out))
      (case aS => exact (Ze hB_))
      (case aL => have := LMc26.out; omega)
      intro v153 w34 ho hb hg hat
      rw [← Ny152.out] at ho
      have n0_ := Aside0.mk (Kd.S_after (ok := (fun _ => True)) (rS_ HO_147001.out) hg hat)
      have n1_ := Aside0.mk (ZJ (bq_ BK144.out) hg (Kd.R_ne HO151.out BK144.out (by decide)))
      have n2_ := Aside0.mk (ZJ (bq_ BK145.out) hg (Kd.R_ne HO151.out BK145.out (by decide)))
      have n3_ := Aside0.mk (ZJ (bq_ BK146.out) hg (Kd.R_ne HO151.out BK146.out (by decide)))
      have n4_ := Aside0.mk (hb)
      have n5_ := Aside0.mk (ho)
      clear HO_147001
      clear BK144
      clear BK145
      clear BK146
      clear HB
      clear HO151
      have HO_147001 := n0_
      have BK144 := n1_
      have BK145 := n2_
      have BK146 := n3_
      have HB := n4_
      have HO154 := n5_
      clear n0_ n1_ n2_ n3_ n4_ n5_
      clear ho hb hg hat
      obtain ⟨Ao36, co36, eo36⟩ := Kd.R_slice HO154.out
      (first | subst eo36 | (injection eo36 with f1_ f2_ f3_; have f4_ := f1_.symm; have f5_ := f3_.symm; clear f1_ f2_ f3_; subst f4_; subst f5_))
      refine hK.out _ _ ⟨(Za BK146.out 0).trans rfl, (Za BK146.out 1).trans rfl⟩ (fun hHeld => ?_)
      clear hK K
      refine no_ 66 ?_
      refine on_ 5 67 (m_ 9 63) (fun K hK => ?_)
      refine value_ (w1 := ?_) (v := ?_) (by rfl) rfl ?_ ?_
      rotate_left 2
      ·go_simp
       constructor
       ·rfl
       rfl
      refine hK.out _ _ ⟨(Za (Zi BK146.out _) 0).trans rfl, (Za (Zi BK146.out _) 1).trans rfl⟩ (fun hHeld => ?_)
      clear hK K
      refine no_ 67 ?_
      refine on_ 6 68 (m_ 9 127) (fun K hK => ?_)
      refine Kd.S_append_step (Kd.slice 3 (Kd.int .i64)) (w0 := w) w.heap.size (by rfl) (.tmp 63) (.tmp 67) 22 31 (.slice none 0 0) 24 rfl Try.underlying22 info31 rfl (by decide) (by omega) u147001 x147001_1 y152 [.slice Ao36 y152.length co36] (fun _ => True) (fun k_ => some k_ = (.slice Ao36 y152.length co36 : Value).ownBlock) rfl rfl ?aP (fun k_ hk_ => ((ZK (ok' := fun k_ => ((fun _ => True)) k_ ∧ some k_ ≠ (u147001 : Value).ownBlock) (ZN (HO154.out) (Kd.S_typed HO_147001.out) (by decide)) (fun k_ hk => ⟨trivial, hk.2⟩))).1 k_ hk_.symm) ?aF ?aO ?aB ?aS ?aL ?_
      (case aP => exact Kd.M_row (ZK (Kd.R_tight rfl (ZK (ok' := fun k_ => ((fun _ => True)) k_ ∧ some k_ ≠ (u147001 : Value).ownBlock) (ZN (HO154.out) (Kd.S_typed HO_147001.out) (by decide)) (fun k_ hk => ⟨trivial, hk.2⟩))) (fun _ h_ => h_)))
      (case aB => exact hB_)
      (case aF => exact (fun _ _ => trivial))
      (case aO => exact (by (with_reducible repeat (first | apply Kd.S_alloc | apply Kd.S_drewN | apply Kd.S_drew)); exact ZT HO_147001.out (fun k_ hk => ⟨trivial, fun e_ => hk.2 e_⟩)))
      (case aS => exact (Ze hB_))
      (case aL => have := LMc27.out; omega)
      intro v156 w35 ho hb hg hat
      rw [← Ny155.out] at ho
      have n0_ := Aside0.mk (ZJ (bq_ BK144.out) hg (Kd.S_ne HO_147001.out BK144.out (by decide)))
      have n1_ := Aside0.mk (ZJ (bq_ BK145.out) hg (Kd.S_ne HO_147001.out BK145.out (by decide)))
      have n2_ := Aside0.mk (ZJ (bq_ BK146.out) hg (Kd.S_ne HO_147001.out BK146.out (by decide)))
      have n3_ := Aside0.mk (hb)
      have n4_ := Aside0.mk (ho)
      clear BK144
      clear BK145
      clear BK146
      clear HB
      clear HO_147001
      clear HO154
      have BK144 := n0_
      have BK145 := n1_
      have BK146 := n2_
      have HB := n3_
      have HO157 := n4_
      clear n0_ n1_ n2_ n3_ n4_
      clear ho hb hg hat
      obtain ⟨Ao37, co37, eo37⟩ := Kd.S_slice HO157.out
      (first | subst eo37 | (injection eo37 with f1_ f2_ f3_; have f4_ := f1_.symm; have f5_ := f3_.symm; clear f1_ f2_ f3_; subst f4_; subst f5_))
      refine hK.out _ _ ⟨(Za BK146.out 0).trans rfl, (Za BK146.out 1).trans rfl⟩ (fun hHeld => ?_)
      clear hK K
      refine no_ 68 ?_
      refine pu_ 7 69 (m_ 9 255) ?_
      refine last_ (i := 8) (N := none) (m_ 9 511) rfl rfl (one_of HT_.out (by kernel_rfl)) (by decide) (fun K hK => ?_)
      have hs38 : w35.cell? ⟨gb146, 1, none⟩ = some (u147001) := (Za BK146.out 1).trans rfl
      have hfs38 := Zb BK146.out 1
      have hns38_0 := NB144_146.out
      have hns38_1 := NB145_146.out
      have hms38_0 := NB146_144.out
      have hms38_1 := NB146_145.out
      refine skip_ (w1 := ?_) (by rfl) rfl ?_ ?_
      rotate_left
      ·go_simp
       rfl
      refine hK.out _ _ ?_
      clear hK K
      refine done_ (done_of HT_.out (by kernel_rfl)) ?_
      try go_wp2
      go_roundg kj11
      case measure => have := HK1.out; have := HJ11.out; omega
      case rel => exact ⟨(true), (wrap64 (x10_1 + 1)), (y155), (.slice Ao37 y155.length co37), sm_, sm_, H', ⟨by have := HK1.out; have := HJ11.out; omega⟩, ⟨by (with_reducible repeat (first | apply Kd.S_alloc | apply Kd.S_drewN | apply Kd.S_drew)); exact ZT (Kd.S_far (p := ⟨gb146, 1, none⟩) (Kd.S_types HO157.out BK146.out (by decide)) (fun _ hk => hk.2) (.slice Ao37 y155.length co37)) (fun _ hk => trivial)⟩, ⟨by (with_reducible repeat (first | refine Zk ?_ _ | refine Zj ?_ | refine Zi ?_ _)); refine blk_far ?_ NB144_146.out _; (with_reducible repeat (first | refine Zk ?_ _ | refine Zj ?_ | refine Zi ?_ _)); exact BK144.out⟩, ⟨by (with_reducible repeat (first | refine Zk ?_ _ | refine Zj ?_ | refine Zi ?_ _)); refine blk_far ?_ NB145_146.out _; (with_reducible repeat (first | refine Zk ?_ _ | refine Zj ?_ | refine Zi ?_ _)); exact BK145.out⟩, ⟨by (with_reducible repeat (first | refine Zk ?_ _ | refine Zj ?_ | refine Zi ?_ _)); refine blk_put (cs := #[.int .i64 a0_0, u147001]) ?_ 1 _ rfl; (with_reducible repeat (first | refine Zk ?_ _ | refine Zj ?_ | refine Zi ?_ _)); exact BK146.out⟩, ⟨hB_⟩⟩
     replace c25 := Bool.eq_false_iff.mpr c25
     subst c25
     have H1 : (if 0 < ((rd_L2 l0_1 x10_1).length : Int) then (if (rd (rd_L2 l0_1 x10_1) 0) > a1 then (if x147001_1.length < 5864062014805 then ((some (x147001_1 ++ [(([a1, a2] : List Int))] : List (List Int))).bind fun y162 => ((some (([] : List Int) : List Int)).bind fun y165 => (if y165.length + (rd_L2 l0_1 x10_1).length < 17592186044416 then (if y162.length < 5864062014805 then (spec_AddAttack.l0 kj11 a1 a2 true (wrap64 (x10_1 + 1)) a0_0 l0_1 a0_0 (y162 ++ [(y165 ++ (rd_L2 l0_1 x10_1))])) else (none)) else (none)))) else (none)) else (if (rd (rd_L2 l0_1 x10_1) 0) = a1 then (if 1 < ((rd_L2 l0_1 x10_1).length : Int) then (if (rd (rd_L2 l0_1 x10_1) 1) > a2 then (if x147001_1.length < 5864062014805 then ((some (x147001_1 ++ [(([a1, a2] : List Int))] : List (List Int))).bind fun y179 => ((some (([] : List Int) : List Int)).bind fun y182 => (if y182.length + (rd_L2 l0_1 x10_1).length < 17592186044416 then (if y179.length < 5864062014805 then (spec_AddAttack.l0 kj11 a1 a2 true (wrap64 (x10_1 + 1)) a0_0 l0_1 a0_0 (y179 ++ [(y182 ++ (rd_L2 l0_1 x10_1))])) else (none)) else (none)))) else (none)) else ((some (([] : List Int) : List Int)).bind fun y191 => (if y191.length + (rd_L2 l0_1 x10_1).length < 17592186044416 then (if x147001_1.length < 5864062014805 then (spec_AddAttack.l0 kj11 a1 a2 false (wrap64 (x10_1 + 1)) a0_0 l0_1 a0_0 (x147001_1 ++ [(y191 ++ (rd_L2 l0_1 x10_1))])) else (none)) else (none)))) else (none)) else ((some (([] : List Int) : List Int)).bind fun y200 => (if y200.length + (rd_L2 l0_1 x10_1).length < 17592186044416 then (if x147001_1.length < 5864062014805 then (spec_AddAttack.l0 kj11 a1 a2 false (wrap64 (x10_1 + 1)) a0_0 l0_1 a0_0 (x147001_1 ++ [(y200 ++ (rd_L2 l0_1 x10_1))])) else (none)) else (none))))) else (none)) = some (r1, r2, r3) := by rw [if_neg (show ¬ (false = true) by decide)] at H; exact H
     clear H
     have H := H1
     clear H1
     by_cases c39 : 0 < ((rd_L2 l0_1 x10_1).length : Int)
     rotate_left
     ·rw [if_neg c39] at H
      exact absurd H (by simp)
     rw [if_pos c39] at H
     have c39b0 : decide (0 < ((rd_L2 l0_1 x10_1).length : Int)) = true := decide_eq_true c39
     have c39b1 : decide (0 < (rd_L2 l0_1 x10_1).length) = true := decide_eq_true (by omega)
     clear c39
     by_cases c40 : (rd (rd_L2 l0_1 x10_1) 0) > a1
     ·rw [if_pos c40] at H
      have c40b0 : decide (a1 < (rd (rd_L2 l0_1 x10_1) 0)) = true := decide_eq_true c40
      clear c40
      obtain ⟨y159, hy159⟩ : ∃ y_ : List Int, y_ = (([a1, a2] : List Int)) := ⟨_, rfl⟩
      replace H : (if x147001_1.length < 5864062014805 then ((some (x147001_1 ++ [y159] : List (List Int))).bind fun y162 => ((some (([] : List Int) : List Int)).bind fun y165 => (if y165.length + (rd_L2 l0_1 x10_1).length < 17592186044416 then (if y162.length < 5864062014805 then (spec_AddAttack.l0 kj11 a1 a2 true (wrap64 (x10_1 + 1)) a0_0 l0_1 a0_0 (y162 ++ [(y165 ++ (rd_L2 l0_1 x10_1))])) else (none)) else (none)))) else (none)) = some (r1, r2, r3) := hy_ hy159 H
      have Ny159 := Aside0.mk hy159
      clear hy159
      by_cases c41 : x147001_1.length < 5864062014805
      rotate_left
      ·rw [if_neg c41] at H
       exact absurd H (by simp)
      rw [if_pos c41] at H
      have LMc41 := Aside0.mk c41
      clear c41
      obtain ⟨y162, hy162⟩ : ∃ y_ : List (List Int), y_ = (x147001_1 ++ [y159]) := ⟨_, rfl⟩
      replace H : ((some (([] : List Int) : List Int)).bind fun y165 => (if y165.length + (rd_L2 l0_1 x10_1).length < 17592186044416 then (if y162.length < 5864062014805 then (spec_AddAttack.l0 kj11 a1 a2 true (wrap64 (x10_1 + 1)) a0_0 l0_1 a0_0 (y162 ++ [(y165 ++ (rd_L2 l0_1 x10_1))])) else (none)) else (none))) = some (r1, r2, r3) := hy_ hy162 H
      have Ny162 := Aside0.mk hy162
      clear hy162
      obtain ⟨y165, hy165⟩ : ∃ y_ : List Int, y_ = (([] : List Int)) := ⟨_, rfl⟩
      replace H : (if y165.length + (rd_L2 l0_1 x10_1).length < 17592186044416 then (if y162.length < 5864062014805 then (spec_AddAttack.l0 kj11 a1 a2 true (wrap64 (x10_1 + 1)) a0_0 l0_1 a0_0 (y162 ++ [(y165 ++ (rd_L2 l0_1 x10_1))])) else (none)) else (none)) = some (r1, r2, r3) := hy_ hy165 H
      have Ny165 := Aside0.mk hy165
      clear hy165
      by_cases c42 : y165.length + (rd_L2 l0_1 x10_1).length < 17592186044416
      rotate_left
      ·rw [if_neg c42] at H
       exact absurd H (by simp)
      rw [if_pos c42] at H
      have LMc42 := Aside0.mk c42
      clear c42
      obtain ⟨y168, hy168⟩ : ∃ y_ : List Int, y_ = (y165 ++ (rd_L2 l0_1 x10_1)) := ⟨_, rfl⟩
      replace H : (if y162.length < 5864062014805 then (spec_AddAttack.l0 kj11 a1 a2 true (wrap64 (x10_1 + 1)) a0_0 l0_1 a0_0 (y162 ++ [y168])) else (none)) = some (r1, r2, r3) := hy_ hy168 H
      have Ny168 := Aside0.mk hy168
      clear hy168
      by_cases c43 : y162.length < 5864062014805
      rotate_left
      ·rw [if_neg c43] at H
       exact absurd H (by simp)
      rw [if_pos c43] at H
      have LMc43 := Aside0.mk c43
      clear c43
      obtain ⟨y171, hy171⟩ : ∃ y_ : List (List Int), y_ = (y162 ++ [y168]) := ⟨_, rfl⟩
      replace H : (spec_AddAttack.l0 kj11 a1 a2 true (wrap64 (x10_1 + 1)) a0_0 l0_1 a0_0 y171) = some (r1, r2, r3) := hy_ hy171 H
      have Ny171 := Aside0.mk hy171
      clear hy171
      have H' := Aside0.mk H
      clear H
      have hnb44 := NB144_145.out
      have hnc44 := NB145_144.out
      have hnb45 := NB144_146.out
      have hnc45 := NB146_144.out
      obtain ⟨hcz46_0, hcz46_1, hfz46_0, hfz46_1⟩ := c2_ BK144.out
      have p148 : 0 ≤ (x10_1 : Int) := of_decide_eq_true as_
      have q148 : x10_1 < (l0_1.length : Int) := of_decide_eq_true as_
      obtain ⟨ad148, A148_0, c148_0, e148, hx148_0, hl148_0, hi148_0⟩ := at_L2 HR0_1.out x10_1 p148 q148
      cases e148
      replace hx148_0 := (HB.out.cell (World.block_lt_of_cell? w _ hx148_0)).trans hx148_0
      have HR148_0 := Aside0.mk hi148_0
      have HC148_0 := Aside0.mk hl148_0
      clear hi148_0 hl148_0
      replace p148 := eq_true p148
      replace q148 := eq_true q148
      have p158 : 0 ≤ (0 : Int) := (by omega)
      have q158 : 0 < ((rd_L2 l0_1 x10_1).length : Int) := of_decide_eq_true as_
      obtain ⟨ad158, e158, hx158_0⟩ := Zo HR148_0.out 0 p158 q158
      cases e158
      have qi158 : (0 < (rd_L2 l0_1 x10_1).length) = True := eq_true (by omega)
      (try rw [show ((0 : Int)).toNat = 0 from rfl] at hx158_0)
      (try rw [Addr.add_zero'] at hx158_0)
      replace hx158_0 := (HB.out.cell (World.block_lt_of_cell? w _ hx158_0)).trans hx158_0
      replace p158 := eq_true p158
      replace q158 := eq_true q158
      have hnb47 := NB146_145.out
      have hnc47 := NB145_146.out
      obtain ⟨hcz48_0, hcz48_1, hfz48_0, hfz48_1⟩ := c2_ BK146.out
      try go_wp2_with (first | ((with_reducible refine Zz (N := 58) rfl ?_); refine Kd.R_lit (Kd.int .i64) _ 3 ?hg (N := 58) ?hd (xs := ([a1, a2] : List Int)) (inner := [.int .i64 a1, .int .i64 a2]) (ok := fun _ => True) (okp := fun _ => True) ?hr ?hp (fun _ hk => hk) trivial (Below.refl _ _) (Nat.le_refl _) (by simp) ?_; (case hd => rfl); (case hg => rfl); (case hr => first | (go_simp; done) | (go_simp; rfl)); (case hp => exact (Reps.one (show Kd.M (Kd.int .i64) _ _ _ a1 [.int .i64 a1] from rfl) (Reps.one (show Kd.M (Kd.int .i64) _ _ _ a2 [.int .i64 a2] from rfl) (Reps.none _ _)))); intro v160 w49 ho50 hb hg_ hnew_; clear hg_ hnew_; (first | rw [← Ny159.out] at ho50 | (simp only [Int.reduceToNat] at ho50; rw [← Ny159.out] at ho50)); replace HO_147001 := Aside0.mk (Kd.S_elder' (rS_ HO_147001.out) (Kd.R_base ho50) hb); have HO161 := Aside0.mk (Kd.R_lower ho50 (Ze hB_)); replace BK144 := Aside0.mk (Zd (bq_ BK144.out) hb); replace BK145 := Aside0.mk (Zd (bq_ BK145.out) hb); replace BK146 := Aside0.mk (Zd (bq_ BK146.out) hb); replace HB := Aside0.mk (Zc hB_ hb); clear hb ho50; obtain ⟨Ao52, co52, eo52⟩ := Kd.R_slice HO161.out; subst eo52) | ((with_reducible refine gate_builtin (b := .append) (xs := #[.tmp 55, .tmp 59]) rfl ?_); at_builtin; refine Kd.S_append (Kd.slice 3 (Kd.int .i64)) (w0 := w) w.heap.size rfl (.tmp 55) (.tmp 59) 22 31 (.slice none 0 0) 24 rfl Try.underlying22 info31 rfl (by decide) (by omega) u147001 x147001_1 y159 [.slice Ao52 y159.length co52] (fun _ => True) (fun k_ => some k_ = (.slice Ao52 y159.length co52 : Value).ownBlock) rfl rfl ?aP (fun k_ hk_ => ((ZK (ok' := fun k_ => ((fun _ => True)) k_ ∧ some k_ ≠ (u147001 : Value).ownBlock) (ZN (HO161.out) (Kd.S_typed HO_147001.out) (by decide)) (fun k_ hk => ⟨trivial, hk.2⟩))).1 k_ hk_.symm) ?aF ?aO ?aB ?aS ?aL ?_; (case aP => exact Kd.M_row (ZK (Kd.R_tight rfl (ZK (ok' := fun k_ => ((fun _ => True)) k_ ∧ some k_ ≠ (u147001 : Value).ownBlock) (ZN (HO161.out) (Kd.S_typed HO_147001.out) (by decide)) (fun k_ hk => ⟨trivial, hk.2⟩))) (fun _ h_ => h_))); (case aB => exact hB_); (case aF => exact (fun _ _ => trivial)); (case aO => exact (by (with_reducible repeat (first | apply Kd.S_alloc | apply Kd.S_drewN | apply Kd.S_drew)); exact ZT HO_147001.out (fun k_ hk => ⟨trivial, fun e_ => hk.2 e_⟩))); (case aS => exact (Ze hB_)); (case aL => have := LMc41.out; omega); intro v163 w51 ho hb hg hat; rw [← Ny162.out] at ho; have n0_ := Aside0.mk (ZJ (bq_ BK144.out) hg (Kd.S_ne HO_147001.out BK144.out (by decide))); have n1_ := Aside0.mk (ZJ (bq_ BK145.out) hg (Kd.S_ne HO_147001.out BK145.out (by decide))); have n2_ := Aside0.mk (ZJ (bq_ BK146.out) hg (Kd.S_ne HO_147001.out BK146.out (by decide))); have n3_ := Aside0.mk (hb); have n4_ := Aside0.mk (ho); clear BK144; clear BK145; clear BK146; clear HB; clear HO_147001; clear HO161; have BK144 := n0_; have BK145 := n1_; have BK146 := n2_; have HB := n3_; have HO164 := n4_; clear n0_ n1_ n2_ n3_ n4_; clear ho hb hg hat; obtain ⟨Ao53, co53, eo53⟩ := Kd.S_slice HO164.out; subst eo53; obtain ⟨hcz54_0, hcz54_1, hfz54_0, hfz54_1⟩ := c2_ BK146.out))
      have n0_ : Aside0 (Kd.S (Kd.slice 3 (Kd.int .i64)) 31 (w51.setCell ⟨gb146, 1, none⟩ (.slice Ao53 y162.length co53)) w.heap.size (fun _ => True) (.slice Ao53 y162.length co53) y162) := ⟨by (with_reducible repeat (first | apply Kd.S_alloc | apply Kd.S_drewN | apply Kd.S_drew)); exact ZT (Kd.S_far (p := ⟨gb146, 1, none⟩) (Kd.S_types HO164.out BK146.out (by decide)) (fun _ hk => hk.2) (.slice Ao53 y162.length co53)) (fun _ hk => trivial)⟩
      have n1_ : Aside0 ((w51.setCell ⟨gb146, 1, none⟩ (.slice Ao53 y162.length co53)).heap[gb144]? = some (.cells #[.int .i64 a0_0, .slice (some ad148) l0_1.length c0_1] 27 (0, 0))) := ⟨by (with_reducible repeat (first | refine Zk ?_ _ | refine Zj ?_ | refine Zi ?_ _)); refine blk_far ?_ NB144_146.out _; (with_reducible repeat (first | refine Zk ?_ _ | refine Zj ?_ | refine Zi ?_ _)); exact BK144.out⟩
      have n2_ : Aside0 ((w51.setCell ⟨gb146, 1, none⟩ (.slice Ao53 y162.length co53)).heap[gb145]? = some (.cells #[.int .i64 0, .slice none 0 0] 27 (0, 0))) := ⟨by (with_reducible repeat (first | refine Zk ?_ _ | refine Zj ?_ | refine Zi ?_ _)); refine blk_far ?_ NB145_146.out _; (with_reducible repeat (first | refine Zk ?_ _ | refine Zj ?_ | refine Zi ?_ _)); exact BK145.out⟩
      have n3_ : Aside0 ((w51.setCell ⟨gb146, 1, none⟩ (.slice Ao53 y162.length co53)).heap[gb146]? = some (.cells #[.int .i64 a0_0, .slice Ao53 y162.length co53] 27 (0, 0))) := ⟨by (with_reducible repeat (first | refine Zk ?_ _ | refine Zj ?_ | refine Zi ?_ _)); refine blk_put (cs := #[.int .i64 a0_0, u147001]) ?_ 1 _ rfl; (with_reducible repeat (first | refine Zk ?_ _ | refine Zj ?_ | refine Zi ?_ _)); exact BK146.out⟩
      have n4_ : Aside0 (Below w.heap.size w (w51.setCell ⟨gb146, 1, none⟩ (.slice Ao53 y162.length co53))) := ⟨hB_⟩
      (try clear HO164)
      (try clear BK144)
      (try clear BK145)
      (try clear BK146)
      (try clear HB)
      generalize (w51.setCell ⟨gb146, 1, none⟩ (.slice Ao53 y162.length co53)) = w55 at n0_ n1_ n2_ n3_ n4_ ⊢
      have HO164 := n0_
      have BK144 := n1_
      have BK145 := n2_
      have BK146 := n3_
      have HB := n4_
      clear n0_ n1_ n2_ n3_ n4_
      replace HO164 := Aside0.mk (Kd.S_drew HO164.out)
      replace BK144 := Aside0.mk (Zj BK144.out)
      replace BK145 := Aside0.mk (Zj BK145.out)
      replace BK146 := Aside0.mk (Zj BK146.out)
      replace HB := Aside0.mk (Zq HB.out)
      refine start_ (n := 9) (S := fun w' => w'.cell? ⟨gb146, 0, none⟩ = some (.int .i64 a0_0) ∧ w'.cell? ⟨gb146, 1, none⟩ = some (.slice Ao53 y162.length co53)) (ds := [8]) (m_ 9 0) (by kernel_rfl) rfl rfl ⟨(Za BK146.out 0).trans rfl, (Za BK146.out 1).trans rfl⟩ (fun hHeld => ?_); refine with_tabW spec_AddAttack.tab10 spec_AddAttack.bits10 (fun HT_ HW_ => ?_)
      generalize w55.drew = w56 at HO164 BK144 BK145 BK146 HB hHeld ⊢
      refine pu_ 0 62 (m_ 9 1) ?_
      refine pu_ 3 65 (m_ 9 9) ?_
      refine tk2_ 1 63 (m_ 9 11) hHeld ?_
      refine on_ 2 64 (m_ 9 15) (fun K hK => ?_)
      refine Kd.R_lit_step (Kd.int .i64) _ 3 ?hg (N := 64) ?hd (xs := ([] : List Int)) (inner := []) (ok := fun _ => True) (okp := fun _ => True) ?hr ?hp (fun _ hk => hk) trivial (Below.refl _ _) (Nat.le_refl _) (by simp) ?_; (case hd => rfl); (case hg => rfl); (case hr => first | (go_simp; done) | (go_simp; rfl)); (case hp => exact (Reps.none _ _))
      intro v166 w57 ho58 hb hg_ hnew_
      clear hg_ hnew_
      (first | rw [← Ny165.out] at ho58 | (simp only [Int.reduceToNat] at ho58; rw [← Ny165.out] at ho58))
      replace HO164 := Aside0.mk (Kd.S_elder' (rS_ HO164.out) (Kd.R_base ho58) hb)
      have HO167 := Aside0.mk (Kd.R_lower ho58 (Ze hB_))
      replace BK144 := Aside0.mk (Zd (bq_ BK144.out) hb)
      replace BK145 := Aside0.mk (Zd (bq_ BK145.out) hb)
      replace BK146 := Aside0.mk (Zd (bq_ BK146.out) hb)
      replace HB := Aside0.mk (Zc hB_ hb)
      clear hb ho58
      refine hK.out _ _ ⟨(Za BK146.out 0).trans rfl, (Za BK146.out 1).trans rfl⟩ (fun hHeld => ?_)
      clear hK K
      refine no_ 64 ?_
      refine on_ 4 66 (m_ 9 31) (fun K hK => ?_)
      refine Kd.R_append_rows_step (Kd.int .i64) (w0 := w) w.heap.size (by rfl) (.tmp 64) (.tmp 65) 31 3 (.int .i64 0) 8 rfl Try.underlying31 info3 rfl (by decide) (by omega) v166 y165 (rd_L2 l0_1 x10_1) _ _ _ (fun _ => True) (fun _ => False) rfl rfl ?aO ?aR (fun _ _ h => h) (fun _ h => h.elim) ?aF ?aB ?aS ?aL ?_
      (case aR => exact cb_ HR148_0.out)
      (case aB => exact hB_)
      (case aF => exact (fun _ _ => trivial))
      (case aO => exact (rR_ HO167.out))
      (case aS => exact (Ze hB_))
      (case aL => have := LMc42.out; omega)
      intro v169 w59 ho hb hg hat
      rw [← Ny168.out] at ho
      have n0_ := Aside0.mk (ZJ (bq_ BK144.out) hg (Kd.R_ne HO167.out BK144.out (by decide)))
      have n1_ := Aside0.mk (ZJ (bq_ BK145.out) hg (Kd.R_ne HO167.out BK145.out (by decide)))
      have n2_ := Aside0.mk (ZJ (bq_ BK146.out) hg (Kd.R_ne HO167.out BK146.out (by decide)))
      have n3_ := Aside0.mk (Kd.S_after (ok := (fun _ => True)) (rS_ HO164.out) hg hat)
      have n4_ := Aside0.mk (hb)
      have n5_ := Aside0.mk (ho)
      clear BK144
      clear BK145
      clear BK146
      clear HO164
      clear HB
      clear HO167
      have BK144 := n0_
      have BK145 := n1_
      have BK146 := n2_
      have HO164 := n3_
      have HB := n4_
      have HO170 := n5_
      clear n0_ n1_ n2_ n3_ n4_ n5_
      clear ho hb hg hat
      obtain ⟨Ao61, co61, eo61⟩ := Kd.R_slice HO170.out
      (first | subst eo61 | (injection eo61 with f1_ f2_ f3_; have f4_ := f1_.symm; have f5_ := f3_.symm; clear f1_ f2_ f3_; subst f4_; subst f5_))
      refine hK.out _ _ ⟨(Za BK146.out 0).trans rfl, (Za BK146.out 1).trans rfl⟩ (fun hHeld => ?_)
      clear hK K
      refine no_ 66 ?_
      refine on_ 5 67 (m_ 9 63) (fun K hK => ?_)
      refine value_ (w1 := ?_) (v := ?_) (by rfl) rfl ?_ ?_
      rotate_left 2
      ·go_simp
       constructor
       ·rfl
       rfl
      refine hK.out _ _ ⟨(Za (Zi BK146.out _) 0).trans rfl, (Za (Zi BK146.out _) 1).trans rfl⟩ (fun hHeld => ?_)
      clear hK K
      refine no_ 67 ?_
      refine on_ 6 68 (m_ 9 127) (fun K hK => ?_)
      refine Kd.S_append_step (Kd.slice 3 (Kd.int .i64)) (w0 := w) w.heap.size (by rfl) (.tmp 63) (.tmp 67) 22 31 (.slice none 0 0) 24 rfl Try.underlying22 info31 rfl (by decide) (by omega) (.slice Ao53 y162.length co53) y162 y168 [.slice Ao61 y168.length co61] (fun _ => True) (fun k_ => some k_ = (.slice Ao61 y168.length co61 : Value).ownBlock) rfl rfl ?aP (fun k_ hk_ => ((ZK (ok' := fun k_ => ((fun _ => True)) k_ ∧ some k_ ≠ (.slice Ao53 y162.length co53 : Value).ownBlock) (ZN (HO170.out) (Kd.S_typed HO164.out) (by decide)) (fun k_ hk => ⟨trivial, hk.2⟩))).1 k_ hk_.symm) ?aF ?aO ?aB ?aS ?aL ?_
      (case aP => exact Kd.M_row (ZK (Kd.R_tight rfl (ZK (ok' := fun k_ => ((fun _ => True)) k_ ∧ some k_ ≠ (.slice Ao53 y162.length co53 : Value).ownBlock) (ZN (HO170.out) (Kd.S_typed HO164.out) (by decide)) (fun k_ hk => ⟨trivial, hk.2⟩))) (fun _ h_ => h_)))
      (case aB => exact hB_)
      (case aF => exact (fun _ _ => trivial))
      (case aO => exact (by (with_reducible repeat (first | apply Kd.S_alloc | apply Kd.S_drewN | apply Kd.S_drew)); exact ZT HO164.out (fun k_ hk => ⟨trivial, fun e_ => hk.2 e_⟩)))
      (case aS => exact (Ze hB_))
      (case aL => have := LMc43.out; omega)
      intro v172 w60 ho hb hg hat
      rw [← Ny171.out] at ho
      have n0_ := Aside0.mk (ZJ (bq_ BK144.out) hg (Kd.S_ne HO164.out BK144.out (by decide)))
      have n1_ := Aside0.mk (ZJ (bq_ BK145.out) hg (Kd.S_ne HO164.out BK145.out (by decide)))
      have n2_ := Aside0.mk (ZJ (bq_ BK146.out) hg (Kd.S_ne HO164.out BK146.out (by decide)))
      have n3_ := Aside0.mk (hb)
      have n4_ := Aside0.mk (ho)
      clear BK144
      clear BK145
      clear BK146
      clear HB
      clear HO164
      clear HO170
      have BK144 := n0_
      have BK145 := n1_
      have BK146 := n2_
      have HB := n3_
      have HO173 := n4_
      clear n0_ n1_ n2_ n3_ n4_
      clear ho hb hg hat
      obtain ⟨Ao62, co62, eo62⟩ := Kd.S_slice HO173.out
      (first | subst eo62 | (injection eo62 with f1_ f2_ f3_; have f4_ := f1_.symm; have f5_ := f3_.symm; clear f1_ f2_ f3_; subst f4_; subst f5_))
      refine hK.out _ _ ⟨(Za BK146.out 0).trans rfl, (Za BK146.out 1).trans rfl⟩ (fun hHeld => ?_)
      clear hK K
      refine no_ 68 ?_
      refine pu_ 7 69 (m_ 9 255) ?_
      refine last_ (i := 8) (N := none) (m_ 9 511) rfl rfl (one_of HT_.out (by kernel_rfl)) (by decide) (fun K hK => ?_)
      have hs63 : w60.cell? ⟨gb146, 1, none⟩ = some (.slice Ao53 y162.length co53) := (Za BK146.out 1).trans rfl
      have hfs63 := Zb BK146.out 1
      have hns63_0 := NB144_146.out
      have hns63_1 := NB145_146.out
      have hms63_0 := NB146_144.out
      have hms63_1 := NB146_145.out
      refine skip_ (w1 := ?_) (by rfl) rfl ?_ ?_
      rotate_left
      ·go_simp
       rfl
      refine hK.out _ _ ?_
      clear hK K
      refine done_ (done_of HT_.out (by kernel_rfl)) ?_
      try go_wp2
      go_roundg kj11
      case measure => have := HK1.out; have := HJ11.out; omega
      case rel => exact ⟨(true), (wrap64 (x10_1 + 1)), (y171), (.slice Ao62 y171.length co62), sm_, sm_, H', ⟨by have := HK1.out; have := HJ11.out; omega⟩, ⟨by (with_reducible repeat (first | apply Kd.S_alloc | apply Kd.S_drewN | apply Kd.S_drew)); exact ZT (Kd.S_far (p := ⟨gb146, 1, none⟩) (Kd.S_types HO173.out BK146.out (by decide)) (fun _ hk => hk.2) (.slice Ao62 y171.length co62)) (fun _ hk => trivial)⟩, ⟨by (with_reducible repeat (first | refine Zk ?_ _ | refine Zj ?_ | refine Zi ?_ _)); refine blk_far ?_ NB144_146.out _; (with_reducible repeat (first | refine Zk ?_ _ | refine Zj ?_ | refine Zi ?_ _)); exact BK144.out⟩, ⟨by (with_reducible repeat (first | refine Zk ?_ _ | refine Zj ?_ | refine Zi ?_ _)); refine blk_far ?_ NB145_146.out _; (with_reducible repeat (first | refine Zk ?_ _ | refine Zj ?_ | refine Zi ?_ _)); exact BK145.out⟩, ⟨by (with_reducible repeat (first | refine Zk ?_ _ | refine Zj ?_ | refine Zi ?_ _)); refine blk_put (cs := #[.int .i64 a0_0, .slice Ao53 y162.length co53]) ?_ 1 _ rfl; (with_reducible repeat (first | refine Zk ?_ _ | refine Zj ?_ | refine Zi ?_ _)); exact BK146.out⟩, ⟨hB_⟩⟩
     rw [if_neg c40] at H
     have c40b0 : decide (a1 < (rd (rd_L2 l0_1 x10_1) 0)) = false := decide_eq_false c40
     clear c40
     by_cases c64 : (rd (rd_L2 l0_1 x10_1) 0) = a1
     rotate_left
     ·rw [if_neg c64] at H
      have c64b0 : ((rd (rd_L2 l0_1 x10_1) 0) == a1) = false := beq_eq_false_iff_ne.mpr c64
      have c64b1 : ((rd (rd_L2 l0_1 x10_1) 0) != a1) = true := bne_iff_ne.mpr c64
      obtain ⟨y200, hy200⟩ : ∃ y_ : List Int, y_ = (([] : List Int)) := ⟨_, rfl⟩
      replace H : (if y200.length + (rd_L2 l0_1 x10_1).length < 17592186044416 then (if x147001_1.length < 5864062014805 then (spec_AddAttack.l0 kj11 a1 a2 false (wrap64 (x10_1 + 1)) a0_0 l0_1 a0_0 (x147001_1 ++ [(y200 ++ (rd_L2 l0_1 x10_1))])) else (none)) else (none)) = some (r1, r2, r3) := hy_ hy200 H
      have Ny200 := Aside0.mk hy200
      clear hy200
      by_cases c103 : y200.length + (rd_L2 l0_1 x10_1).length < 17592186044416
      rotate_left
      ·rw [if_neg c103] at H
       exact absurd H (by simp)
      rw [if_pos c103] at H
      have LMc103 := Aside0.mk c103
      clear c103
      obtain ⟨y203, hy203⟩ : ∃ y_ : List Int, y_ = (y200 ++ (rd_L2 l0_1 x10_1)) := ⟨_, rfl⟩
      replace H : (if x147001_1.length < 5864062014805 then (spec_AddAttack.l0 kj11 a1 a2 false (wrap64 (x10_1 + 1)) a0_0 l0_1 a0_0 (x147001_1 ++ [y203])) else (none)) = some (r1, r2, r3) := hy_ hy203 H
      have Ny203 := Aside0.mk hy203
      clear hy203
      by_cases c104 : x147001_1.length < 5864062014805
      rotate_left
      ·rw [if_neg c104] at H
       exact absurd H (by simp)
      rw [if_pos c104] at H
      have LMc104 := Aside0.mk c104
      clear c104
      obtain ⟨y206, hy206⟩ : ∃ y_ : List (List Int), y_ = (x147001_1 ++ [y203]) := ⟨_, rfl⟩
      replace H : (spec_AddAttack.l0 kj11 a1 a2 false (wrap64 (x10_1 + 1)) a0_0 l0_1 a0_0 y206) = some (r1, r2, r3) := hy_ hy206 H
      have Ny206 := Aside0.mk hy206
      clear hy206
      have H' := Aside0.mk H
      clear H
      have hnb105 := NB144_145.out
      have hnc105 := NB145_144.out
      have hnb106 := NB144_146.out
      have hnc106 := NB146_144.out
      obtain ⟨hcz107_0, hcz107_1, hfz107_0, hfz107_1⟩ := c2_ BK144.out
      have p148 : 0 ≤ (x10_1 : Int) := of_decide_eq_true as_
      have q148 : x10_1 < (l0_1.length : Int) := of_decide_eq_true as_
      obtain ⟨ad148, A148_0, c148_0, e148, hx148_0, hl148_0, hi148_0⟩ := at_L2 HR0_1.out x10_1 p148 q148
      cases e148
      replace hx148_0 := (HB.out.cell (World.block_lt_of_cell? w _ hx148_0)).trans hx148_0
      have HR148_0 := Aside0.mk hi148_0
      have HC148_0 := Aside0.mk hl148_0
      clear hi148_0 hl148_0
      replace p148 := eq_true p148
      replace q148 := eq_true q148
      have p158 : 0 ≤ (0 : Int) := (by omega)
      have q158 : 0 < ((rd_L2 l0_1 x10_1).length : Int) := of_decide_eq_true as_
      obtain ⟨ad158, e158, hx158_0⟩ := Zo HR148_0.out 0 p158 q158
      cases e158
      have qi158 : (0 < (rd_L2 l0_1 x10_1).length) = True := eq_true (by omega)
      (try rw [show ((0 : Int)).toNat = 0 from rfl] at hx158_0)
      (try rw [Addr.add_zero'] at hx158_0)
      replace hx158_0 := (HB.out.cell (World.block_lt_of_cell? w _ hx158_0)).trans hx158_0
      replace p158 := eq_true p158
      replace q158 := eq_true q158
      have p174 : 0 ≤ (0 : Int) := (by omega)
      have q174 : 0 < ((rd_L2 l0_1 x10_1).length : Int) := of_decide_eq_true as_
      obtain ⟨ad174, e174, hx174_0⟩ := Zo HR148_0.out 0 p174 q174
      obtain rfl : ad158 = ad174 := (by injection e174)
      have qi174 : (0 < (rd_L2 l0_1 x10_1).length) = True := eq_true (by omega)
      (try rw [show ((0 : Int)).toNat = 0 from rfl] at hx174_0)
      (try rw [Addr.add_zero'] at hx174_0)
      replace hx174_0 := (HB.out.cell (World.block_lt_of_cell? w _ hx174_0)).trans hx174_0
      replace p174 := eq_true p174
      replace q174 := eq_true q174
      try go_wp2
      replace HO_147001 := Aside0.mk (Kd.S_drew HO_147001.out)
      replace BK144 := Aside0.mk (Zj BK144.out)
      replace BK145 := Aside0.mk (Zj BK145.out)
      replace BK146 := Aside0.mk (Zj BK146.out)
      replace HB := Aside0.mk (Zq HB.out)
      refine start_ (n := 9) (S := fun w' => w'.cell? ⟨gb146, 0, none⟩ = some (.int .i64 a0_0) ∧ w'.cell? ⟨gb146, 1, none⟩ = some (u147001)) (ds := [8]) (m_ 9 0) (by kernel_rfl) rfl rfl ⟨(Za BK146.out 0).trans rfl, (Za BK146.out 1).trans rfl⟩ (fun hHeld => ?_); refine with_tabW spec_AddAttack.tab10 spec_AddAttack.bits10 (fun HT_ HW_ => ?_)
      generalize wc.drew = w108 at HO_147001 BK144 BK145 BK146 HB hHeld ⊢
      refine pu_ 0 62 (m_ 9 1) ?_
      refine pu_ 3 65 (m_ 9 9) ?_
      refine tk2_ 1 63 (m_ 9 11) hHeld ?_
      refine on_ 2 64 (m_ 9 15) (fun K hK => ?_)
      refine Kd.R_lit_step (Kd.int .i64) _ 3 ?hg (N := 64) ?hd (xs := ([] : List Int)) (inner := []) (ok := fun _ => True) (okp := fun _ => True) ?hr ?hp (fun _ hk => hk) trivial (Below.refl _ _) (Nat.le_refl _) (by simp) ?_; (case hd => rfl); (case hg => rfl); (case hr => first | (go_simp; done) | (go_simp; rfl)); (case hp => exact (Reps.none _ _))
      intro v201 w109 ho110 hb hg_ hnew_
      clear hg_ hnew_
      (first | rw [← Ny200.out] at ho110 | (simp only [Int.reduceToNat] at ho110; rw [← Ny200.out] at ho110))
      replace HO_147001 := Aside0.mk (Kd.S_elder' (rS_ HO_147001.out) (Kd.R_base ho110) hb)
      have HO202 := Aside0.mk (Kd.R_lower ho110 (Ze hB_))
      replace BK144 := Aside0.mk (Zd (bq_ BK144.out) hb)
      replace BK145 := Aside0.mk (Zd (bq_ BK145.out) hb)
      replace BK146 := Aside0.mk (Zd (bq_ BK146.out) hb)
      replace HB := Aside0.mk (Zc hB_ hb)
      clear hb ho110
      refine hK.out _ _ ⟨(Za BK146.out 0).trans rfl, (Za BK146.out 1).trans rfl⟩ (fun hHeld => ?_)
      clear hK K
      refine no_ 64 ?_
      refine on_ 4 66 (m_ 9 31) (fun K hK => ?_)
      refine Kd.R_append_rows_step (Kd.int .i64) (w0 := w) w.heap.size (by rfl) (.tmp 64) (.tmp 65) 31 3 (.int .i64 0) 8 rfl Try.underlying31 info3 rfl (by decide) (by omega) v201 y200 (rd_L2 l0_1 x10_1) _ _ _ (fun _ => True) (fun _ => False) rfl rfl ?aO ?aR (fun _ _ h => h) (fun _ h => h.elim) ?aF ?aB ?aS ?aL ?_
      (case aR => exact cb_ HR148_0.out)
      (case aB => exact hB_)
      (case aF => exact (fun _ _ => trivial))
      (case aO => exact (rR_ HO202.out))
      (case aS => exact (Ze hB_))
      (case aL => have := LMc103.out; omega)
      intro v204 w111 ho hb hg hat
      rw [← Ny203.out] at ho
      have n0_ := Aside0.mk (Kd.S_after (ok := (fun _ => True)) (rS_ HO_147001.out) hg hat)
      have n1_ := Aside0.mk (ZJ (bq_ BK144.out) hg (Kd.R_ne HO202.out BK144.out (by decide)))
      have n2_ := Aside0.mk (ZJ (bq_ BK145.out) hg (Kd.R_ne HO202.out BK145.out (by decide)))
      have n3_ := Aside0.mk (ZJ (bq_ BK146.out) hg (Kd.R_ne HO202.out BK146.out (by decide)))
      have n4_ := Aside0.mk (hb)
      have n5_ := Aside0.mk (ho)
      clear HO_147001
      clear BK144
      clear BK145
      clear BK146
      clear HB
      clear HO202
      have HO_147001 := n0_
      have BK144 := n1_
      have BK145 := n2_
      have BK146 := n3_
      have HB := n4_
      have HO205 := n5_
      clear n0_ n1_ n2_ n3_ n4_ n5_
      clear ho hb hg hat
      obtain ⟨Ao113, co113, eo113⟩ := Kd.R_slice HO205.out
      (first | subst eo113 | (injection eo113 with f1_ f2_ f3_; have f4_ := f1_.symm; have f5_ := f3_.symm; clear f1_ f2_ f3_; subst f4_; subst f5_))
      refine hK.out _ _ ⟨(Za BK146.out 0).trans rfl, (Za BK146.out 1).trans rfl⟩ (fun hHeld => ?_)
      clear hK K
      refine no_ 66 ?_
      refine on_ 5 67 (m_ 9 63) (fun K hK => ?_)
      refine value_ (w1 := ?_) (v := ?_) (by rfl) rfl ?_ ?_
      rotate_left 2
      ·go_simp
       constructor
       ·rfl
       rfl
      refine hK.out _ _ ⟨(Za (Zi BK146.out _) 0).trans rfl, (Za (Zi BK146.out _) 1).trans rfl⟩ (fun hHeld => ?_)
      clear hK K
      refine no_ 67 ?_
      refine on_ 6 68 (m_ 9 127) (fun K hK => ?_)
      refine Kd.S_append_step (Kd.slice 3 (Kd.int .i64)) (w0 := w) w.heap.size (by rfl) (.tmp 63) (.tmp 67) 22 31 (.slice none 0 0) 24 rfl Try.underlying22 info31 rfl (by decide) (by omega) u147001 x147001_1 y203 [.slice Ao113 y203.length co113] (fun _ => True) (fun k_ => some k_ = (.slice Ao113 y203.length co113 : Value).ownBlock) rfl rfl ?aP (fun k_ hk_ => ((ZK (ok' := fun k_ => ((fun _ => True)) k_ ∧ some k_ ≠ (u147001 : Value).ownBlock) (ZN (HO205.out) (Kd.S_typed HO_147001.out) (by decide)) (fun k_ hk => ⟨trivial, hk.2⟩))).1 k_ hk_.symm) ?aF ?aO ?aB ?aS ?aL ?_
      (case aP => exact Kd.M_row (ZK (Kd.R_tight rfl (ZK (ok' := fun k_ => ((fun _ => True)) k_ ∧ some k_ ≠ (u147001 : Value).ownBlock) (ZN (HO205.out) (Kd.S_typed HO_147001.out) (by decide)) (fun k_ hk => ⟨trivial, hk.2⟩))) (fun _ h_ => h_)))
      (case aB => exact hB_)
      (case aF => exact (fun _ _ => trivial))
      (case aO => exact (by (with_reducible repeat (first | apply Kd.S_alloc | apply Kd.S_drewN | apply Kd.S_drew)); exact ZT HO_147001.out (fun k_ hk => ⟨trivial, fun e_ => hk.2 e_⟩)))
      (case aS => exact (Ze hB_))
      (case aL => have := LMc104.out; omega)
      intro v207 w112 ho hb hg hat
      rw [← Ny206.out] at ho
      have n0_ := Aside0.mk (ZJ (bq_ BK144.out) hg (Kd.S_ne HO_147001.out BK144.out (by decide)))
      have n1_ := Aside0.mk (ZJ (bq_ BK145.out) hg (Kd.S_ne HO_147001.out BK145.out (by decide)))
      have n2_ := Aside0.mk (ZJ (bq_ BK146.out) hg (Kd.S_ne HO_147001.out BK146.out (by decide)))
      have n3_ := Aside0.mk (hb)
      have n4_ := Aside0.mk (ho)
      clear BK144
      clear BK145
      clear BK146
      clear HB
      clear HO_147001
      clear HO205
      have BK144 := n0_
      have BK145 := n1_
      have BK146 := n2_
      have HB := n3_
      have HO208 := n4_
      clear n0_ n1_ n2_ n3_ n4_
      clear ho hb hg hat
      obtain ⟨Ao114, co114, eo114⟩ := Kd.S_slice HO208.out
      (first | subst eo114 | (injection eo114 with f1_ f2_ f3_; have f4_ := f1_.symm; have f5_ := f3_.symm; clear f1_ f2_ f3_; subst f4_; subst f5_))
      refine hK.out _ _ ⟨(Za BK146.out 0).trans rfl, (Za BK146.out 1).trans rfl⟩ (fun hHeld => ?_)
      clear hK K
      refine no_ 68 ?_
      refine pu_ 7 69 (m_ 9 255) ?_
      refine last_ (i := 8) (N := none) (m_ 9 511) rfl rfl (one_of HT_.out (by kernel_rfl)) (by decide) (fun K hK => ?_)
      have hs115 : w112.cell? ⟨gb146, 1, none⟩ = some (u147001) := (Za BK146.out 1).trans rfl
      have hfs115 := Zb BK146.out 1
      have hns115_0 := NB144_146.out
      have hns115_1 := NB145_146.out
      have hms115_0 := NB146_144.out
      have hms115_1 := NB146_145.out
      refine skip_ (w1 := ?_) (by rfl) rfl ?_ ?_
      rotate_left
      ·go_simp
       rfl
      refine hK.out _ _ ?_
      clear hK K
      refine done_ (done_of HT_.out (by kernel_rfl)) ?_
      try go_wp2
      go_roundg kj11
      case measure => have := HK1.out; have := HJ11.out; omega
      case rel => exact ⟨(false), (wrap64 (x10_1 + 1)), (y206), (.slice Ao114 y206.length co114), sm_, sm_, H', ⟨by have := HK1.out; have := HJ11.out; omega⟩, ⟨by (with_reducible repeat (first | apply Kd.S_alloc | apply Kd.S_drewN | apply Kd.S_drew)); exact ZT (Kd.S_far (p := ⟨gb146, 1, none⟩) (Kd.S_types HO208.out BK146.out (by decide)) (fun _ hk => hk.2) (.slice Ao114 y206.length co114)) (fun _ hk => trivial)⟩, ⟨by (with_reducible repeat (first | refine Zk ?_ _ | refine Zj ?_ | refine Zi ?_ _)); refine blk_far ?_ NB144_146.out _; (with_reducible repeat (first | refine Zk ?_ _ | refine Zj ?_ | refine Zi ?_ _)); exact BK144.out⟩, ⟨by (with_reducible repeat (first | refine Zk ?_ _ | refine Zj ?_ | refine Zi ?_ _)); refine blk_far ?_ NB145_146.out _; (with_reducible repeat (first | refine Zk ?_ _ | refine Zj ?_ | refine Zi ?_ _)); exact BK145.out⟩, ⟨by (with_reducible repeat (first | refine Zk ?_ _ | refine Zj ?_ | refine Zi ?_ _)); refine blk_put (cs := #[.int .i64 a0_0, u147001]) ?_ 1 _ rfl; (with_reducible repeat (first | refine Zk ?_ _ | refine Zj ?_ | refine Zi ?_ _)); exact BK146.out⟩, ⟨hB_⟩⟩
     rw [if_pos c64] at H
     have c64b0 : ((rd (rd_L2 l0_1 x10_1) 0) == a1) = true := beq_iff_eq.mpr c64
     have c64b1 : ((rd (rd_L2 l0_1 x10_1) 0) != a1) = false := bne_eq_false_iff_eq.mpr c64
     clear c64
     by_cases c65 : 1 < ((rd_L2 l0_1 x10_1).length : Int)
     rotate_left
     ·rw [if_neg c65] at H
      exact absurd H (by simp)
     rw [if_pos c65] at H
     have c65b0 : decide (1 < ((rd_L2 l0_1 x10_1).length : Int)) = true := decide_eq_true c65
     have c65b1 : decide (1 < (rd_L2 l0_1 x10_1).length) = true := decide_eq_true (by omega)
     clear c65
     by_cases c66 : (rd (rd_L2 l0_1 x10_1) 1) > a2
     rotate_left
     ·rw [if_neg c66] at H
      have c66b0 : decide (a2 < (rd (rd_L2 l0_1 x10_1) 1)) = false := decide_eq_false c66
      clear c66
      obtain ⟨y191, hy191⟩ : ∃ y_ : List Int, y_ = (([] : List Int)) := ⟨_, rfl⟩
      replace H : (if y191.length + (rd_L2 l0_1 x10_1).length < 17592186044416 then (if x147001_1.length < 5864062014805 then (spec_AddAttack.l0 kj11 a1 a2 false (wrap64 (x10_1 + 1)) a0_0 l0_1 a0_0 (x147001_1 ++ [(y191 ++ (rd_L2 l0_1 x10_1))])) else (none)) else (none)) = some (r1, r2, r3) := hy_ hy191 H
      have Ny191 := Aside0.mk hy191
      clear hy191
      by_cases c90 : y191.length + (rd_L2 l0_1 x10_1).length < 17592186044416
      rotate_left
      ·rw [if_neg c90] at H
       exact absurd H (by simp)
      rw [if_pos c90] at H
      have LMc90 := Aside0.mk c90
      clear c90
      obtain ⟨y194, hy194⟩ : ∃ y_ : List Int, y_ = (y191 ++ (rd_L2 l0_1 x10_1)) := ⟨_, rfl⟩
      replace H : (if x147001_1.length < 5864062014805 then (spec_AddAttack.l0 kj11 a1 a2 false (wrap64 (x10_1 + 1)) a0_0 l0_1 a0_0 (x147001_1 ++ [y194])) else (none)) = some (r1, r2, r3) := hy_ hy194 H
      have Ny194 := Aside0.mk hy194
      clear hy194
      by_cases c91 : x147001_1.length < 5864062014805
      rotate_left
      ·rw [if_neg c91] at H
       exact absurd H (by simp)
      rw [if_pos c91] at H
      have LMc91 := Aside0.mk c91
      clear c91
      obtain ⟨y197, hy197⟩ : ∃ y_ : List (List Int), y_ = (x147001_1 ++ [y194]) := ⟨_, rfl⟩
      replace H : (spec_AddAttack.l0 kj11 a1 a2 false (wrap64 (x10_1 + 1)) a0_0 l0_1 a0_0 y197) = some (r1, r2, r3) := hy_ hy197 H
      have Ny197 := Aside0.mk hy197
      clear hy197
      have H' := Aside0.mk H
      clear H
      have hnb92 := NB144_145.out
      have hnc92 := NB145_144.out
      have hnb93 := NB144_146.out
      have hnc93 := NB146_144.out
      obtain ⟨hcz94_0, hcz94_1, hfz94_0, hfz94_1⟩ := c2_ BK144.out
      have p148 : 0 ≤ (x10_1 : Int) := of_decide_eq_true as_
      have q148 : x10_1 < (l0_1.length : Int) := of_decide_eq_true as_
      obtain ⟨ad148, A148_0, c148_0, e148, hx148_0, hl148_0, hi148_0⟩ := at_L2 HR0_1.out x10_1 p148 q148
      cases e148
      replace hx148_0 := (HB.out.cell (World.block_lt_of_cell? w _ hx148_0)).trans hx148_0
      have HR148_0 := Aside0.mk hi148_0
      have HC148_0 := Aside0.mk hl148_0
      clear hi148_0 hl148_0
      replace p148 := eq_true p148
      replace q148 := eq_true q148
      have p158 : 0 ≤ (0 : Int) := (by omega)
      have q158 : 0 < ((rd_L2 l0_1 x10_1).length : Int) := of_decide_eq_true as_
      obtain ⟨ad158, e158, hx158_0⟩ := Zo HR148_0.out 0 p158 q158
      cases e158
      have qi158 : (0 < (rd_L2 l0_1 x10_1).length) = True := eq_true (by omega)
      (try rw [show ((0 : Int)).toNat = 0 from rfl] at hx158_0)
      (try rw [Addr.add_zero'] at hx158_0)
      replace hx158_0 := (HB.out.cell (World.block_lt_of_cell? w _ hx158_0)).trans hx158_0
      replace p158 := eq_true p158
      replace q158 := eq_true q158
      have p174 : 0 ≤ (0 : Int) := (by omega)
      have q174 : 0 < ((rd_L2 l0_1 x10_1).length : Int) := of_decide_eq_true as_
      obtain ⟨ad174, e174, hx174_0⟩ := Zo HR148_0.out 0 p174 q174
      obtain rfl : ad158 = ad174 := (by injection e174)
      have qi174 : (0 < (rd_L2 l0_1 x10_1).length) = True := eq_true (by omega)
      (try rw [show ((0 : Int)).toNat = 0 from rfl] at hx174_0)
      (try rw [Addr.add_zero'] at hx174_0)
      replace hx174_0 := (HB.out.cell (World.block_lt_of_cell? w _ hx174_0)).trans hx174_0
      replace p174 := eq_true p174
      replace q174 := eq_true q174
      have p175 : 0 ≤ (1 : Int) := (by omega)
      have q175 : 1 < ((rd_L2 l0_1 x10_1).length : Int) := of_decide_eq_true as_
      obtain ⟨ad175, e175, hx175_0⟩ := Zo HR148_0.out 1 p175 q175
      obtain rfl : ad158 = ad175 := (by injection e175)
      (try simp only [show (1 : Int).toNat = 1 from rfl, Nat.reduceMul, Nat.reduceEqDiff, Go.Addr.add, ↓reduceIte] at hx175_0)
      have qi175 : (1 < (rd_L2 l0_1 x10_1).length) = True := eq_true (by omega)
      (try rw [show ((1 : Int)).toNat = 1 from rfl] at hx175_0)
      replace hx175_0 := (HB.out.cell (World.block_lt_of_cell? w _ hx175_0)).trans hx175_0
      replace p175 := eq_true p175
      replace q175 := eq_true q175
      try go_wp2
      replace HO_147001 := Aside0.mk (Kd.S_drew HO_147001.out)
      replace BK144 := Aside0.mk (Zj BK144.out)
      replace BK145 := Aside0.mk (Zj BK145.out)
      replace BK146 := Aside0.mk (Zj BK146.out)
      replace HB := Aside0.mk (Zq HB.out)
      refine start_ (n := 9) (S := fun w' => w'.cell? ⟨gb146, 0, none⟩ = some (.int .i64 a0_0) ∧ w'.cell? ⟨gb146, 1, none⟩ = some (u147001)) (ds := [8]) (m_ 9 0) (by kernel_rfl) rfl rfl ⟨(Za BK146.out 0).trans rfl, (Za BK146.out 1).trans rfl⟩ (fun hHeld => ?_); refine with_tabW spec_AddAttack.tab10 spec_AddAttack.bits10 (fun HT_ HW_ => ?_)
      generalize wc.drew = w95 at HO_147001 BK144 BK145 BK146 HB hHeld ⊢
      refine pu_ 0 62 (m_ 9 1) ?_
      refine pu_ 3 65 (m_ 9 9) ?_
      refine tk2_ 1 63 (m_ 9 11) hHeld ?_
      refine on_ 2 64 (m_ 9 15) (fun K hK => ?_)
      refine Kd.R_lit_step (Kd.int .i64) _ 3 ?hg (N := 64) ?hd (xs := ([] : List Int)) (inner := []) (ok := fun _ => True) (okp := fun _ => True) ?hr ?hp (fun _ hk => hk) trivial (Below.refl _ _) (Nat.le_refl _) (by simp) ?_; (case hd => rfl); (case hg => rfl); (case hr => first | (go_simp; done) | (go_simp; rfl)); (case hp => exact (Reps.none _ _))
      intro v192 w96 ho97 hb hg_ hnew_
      clear hg_ hnew_
      (first | rw [← Ny191.out] at ho97 | (simp only [Int.reduceToNat] at ho97; rw [← Ny191.out] at ho97))
      replace HO_147001 := Aside0.mk (Kd.S_elder' (rS_ HO_147001.out) (Kd.R_base ho97) hb)
      have HO193 := Aside0.mk (Kd.R_lower ho97 (Ze hB_))
      replace BK144 := Aside0.mk (Zd (bq_ BK144.out) hb)
      replace BK145 := Aside0.mk (Zd (bq_ BK145.out) hb)
      replace BK146 := Aside0.mk (Zd (bq_ BK146.out) hb)
      replace HB := Aside0.mk (Zc hB_ hb)
      clear hb ho97
      refine hK.out _ _ ⟨(Za BK146.out 0).trans rfl, (Za BK146.out 1).trans rfl⟩ (fun hHeld => ?_)
      clear hK K
      refine no_ 64 ?_
      refine on_ 4 66 (m_ 9 31) (fun K hK => ?_)
      refine Kd.R_append_rows_step (Kd.int .i64) (w0 := w) w.heap.size (by rfl) (.tmp 64) (.tmp 65) 31 3 (.int .i64 0) 8 rfl Try.underlying31 info3 rfl (by decide) (by omega) v192 y191 (rd_L2 l0_1 x10_1) _ _ _ (fun _ => True) (fun _ => False) rfl rfl ?aO ?aR (fun _ _ h => h) (fun _ h => h.elim) ?aF ?aB ?aS ?aL ?_
      (case aR => exact cb_ HR148_0.out)
      (case aB => exact hB_)
      (case aF => exact (fun _ _ => trivial))
      (case aO => exact (rR_ HO193.out))
      (case aS => exact (Ze hB_))
      (case aL => have := LMc90.out; omega)
      intro v195 w98 ho hb hg hat
      rw [← Ny194.out] at ho
      have n0_ := Aside0.mk (Kd.S_after (ok := (fun _ => True)) (rS_ HO_147001.out) hg hat)
      have n1_ := Aside0.mk (ZJ (bq_ BK144.out) hg (Kd.R_ne HO193.out BK144.out (by decide)))
      have n2_ := Aside0.mk (ZJ (bq_ BK145.out) hg (Kd.R_ne HO193.out BK145.out (by decide)))
      have n3_ := Aside0.mk (ZJ (bq_ BK146.out) hg (Kd.R_ne HO193.out BK146.out (by decide)))
      have n4_ := Aside0.mk (hb)
      have n5_ := Aside0.mk (ho)
      clear HO_147001
      clear BK144
      clear BK145
      clear BK146
      clear HB
      clear HO193
      have HO_147001 := n0_
      have BK144 := n1_
      have BK145 := n2_
      have BK146 := n3_
      have HB := n4_
      have HO196 := n5_
      clear n0_ n1_ n2_ n3_ n4_ n5_
      clear ho hb hg hat
      obtain ⟨Ao100, co100, eo100⟩ := Kd.R_slice HO196.out
      (first | subst eo100 | (injection eo100 with f1_ f2_ f3_; have f4_ := f1_.symm; have f5_ := f3_.symm; clear f1_ f2_ f3_; subst f4_; subst f5_))
      refine hK.out _ _ ⟨(Za BK146.out 0).trans rfl, (Za BK146.out 1).trans rfl⟩ (fun hHeld => ?_)
      clear hK K
      refine no_ 66 ?_
      refine on_ 5 67 (m_ 9 63) (fun K hK => ?_)
      refine value_ (w1 := ?_) (v := ?_) (by rfl) rfl ?_ ?_
      rotate_left 2
      ·go_simp
       constructor
       ·rfl
       rfl
      refine hK.out _ _ ⟨(Za (Zi BK146.out _) 0).trans rfl, (Za (Zi BK146.out _) 1).trans rfl⟩ (fun hHeld => ?_)
      clear hK K
      refine no_ 67 ?_
      refine on_ 6 68 (m_ 9 127) (fun K hK => ?_)
      refine Kd.S_append_step (Kd.slice 3 (Kd.int .i64)) (w0 := w) w.heap.size (by rfl) (.tmp 63) (.tmp 67) 22 31 (.slice none 0 0) 24 rfl Try.underlying22 info31 rfl (by decide) (by omega) u147001 x147001_1 y194 [.slice Ao100 y194.length co100] (fun _ => True) (fun k_ => some k_ = (.slice Ao100 y194.length co100 : Value).ownBlock) rfl rfl ?aP (fun k_ hk_ => ((ZK (ok' := fun k_ => ((fun _ => True)) k_ ∧ some k_ ≠ (u147001 : Value).ownBlock) (ZN (HO196.out) (Kd.S_typed HO_147001.out) (by decide)) (fun k_ hk => ⟨trivial, hk.2⟩))).1 k_ hk_.symm) ?aF ?aO ?aB ?aS ?aL ?_
      (case aP => exact Kd.M_row (ZK (Kd.R_tight rfl (ZK (ok' := fun k_ => ((fun _ => True)) k_ ∧ some k_ ≠ (u147001 : Value).ownBlock) (ZN (HO196.out) (Kd.S_typed HO_147001.out) (by decide)) (fun k_ hk => ⟨trivial, hk.2⟩))) (fun _ h_ => h_)))
      (case aB => exact hB_)
      (case aF => exact (fun _ _ => trivial))
      (case aO => exact (by (with_reducible repeat (first | apply Kd.S_alloc | apply Kd.S_drewN | apply Kd.S_drew)); exact ZT HO_147001.out (fun k_ hk => ⟨trivial, fun e_ => hk.2 e_⟩)))
      (case aS => exact (Ze hB_))
      (case aL => have := LMc91.out; omega)
      intro v198 w99 ho hb hg hat
      rw [← Ny197.out] at ho
      have n0_ := Aside0.mk (ZJ (bq_ BK144.out) hg (Kd.S_ne HO_147001.out BK144.out (by decide)))
      have n1_ := Aside0.mk (ZJ (bq_ BK145.out) hg (Kd.S_ne HO_147001.out BK145.out (by decide)))
      have n2_ := Aside0.mk (ZJ (bq_ BK146.out) hg (Kd.S_ne HO_147001.out BK146.out (by decide)))
      have n3_ := Aside0.mk (hb)
      have n4_ := Aside0.mk (ho)
      clear BK144
      clear BK145
      clear BK146
      clear HB
      clear HO_147001
      clear HO196
      have BK144 := n0_
      have BK145 := n1_
      have BK146 := n2_
      have HB := n3_
      have HO199 := n4_
      clear n0_ n1_ n2_ n3_ n4_
      clear ho hb hg hat
      obtain ⟨Ao101, co101, eo101⟩ := Kd.S_slice HO199.out
      (first | subst eo101 | (injection eo101 with f1_ f2_ f3_; have f4_ := f1_.symm; have f5_ := f3_.symm; clear f1_ f2_ f3_; subst f4_; subst f5_))
      refine hK.out _ _ ⟨(Za BK146.out 0).trans rfl, (Za BK146.out 1).trans rfl⟩ (fun hHeld => ?_)
      clear hK K
      refine no_ 68 ?_
      refine pu_ 7 69 (m_ 9 255) ?_
      refine last_ (i := 8) (N := none) (m_ 9 511) rfl rfl (one_of HT_.out (by kernel_rfl)) (by decide) (fun K hK => ?_)
      have hs102 : w99.cell? ⟨gb146, 1, none⟩ = some (u147001) := (Za BK146.out 1).trans rfl
      have hfs102 := Zb BK146.out 1
      have hns102_0 := NB144_146.out
      have hns102_1 := NB145_146.out
      have hms102_0 := NB146_144.out
      have hms102_1 := NB146_145.out
      refine skip_ (w1 := ?_) (by rfl) rfl ?_ ?_
      rotate_left
      ·go_simp
       rfl
      refine hK.out _ _ ?_
      clear hK K
      refine done_ (done_of HT_.out (by kernel_rfl)) ?_
      try go_wp2
      go_roundg kj11
      case measure => have := HK1.out; have := HJ11.out; omega
      case rel => exact ⟨(false), (wrap64 (x10_1 + 1)), (y197), (.slice Ao101 y197.length co101), sm_, sm_, H', ⟨by have := HK1.out; have := HJ11.out; omega⟩, ⟨by (with_reducible repeat (first | apply Kd.S_alloc | apply Kd.S_drewN | apply Kd.S_drew)); exact ZT (Kd.S_far (p := ⟨gb146, 1, none⟩) (Kd.S_types HO199.out BK146.out (by decide)) (fun _ hk => hk.2) (.slice Ao101 y197.length co101)) (fun _ hk => trivial)⟩, ⟨by (with_reducible repeat (first | refine Zk ?_ _ | refine Zj ?_ | refine Zi ?_ _)); refine blk_far ?_ NB144_146.out _; (with_reducible repeat (first | refine Zk ?_ _ | refine Zj ?_ | refine Zi ?_ _)); exact BK144.out⟩, ⟨by (with_reducible repeat (first | refine Zk ?_ _ | refine Zj ?_ | refine Zi ?_ _)); refine blk_far ?_ NB145_146.out _; (with_reducible repeat (first | refine Zk ?_ _ | refine Zj ?_ | refine Zi ?_ _)); exact BK145.out⟩, ⟨by (with_reducible repeat (first | refine Zk ?_ _ | refine Zj ?_ | refine Zi ?_ _)); refine blk_put (cs := #[.int .i64 a0_0, u147001]) ?_ 1 _ rfl; (with_reducible repeat (first | refine Zk ?_ _ | refine Zj ?_ | refine Zi ?_ _)); exact BK146.out⟩, ⟨hB_⟩⟩
     rw [if_pos c66] at H
     have c66b0 : decide (a2 < (rd (rd_L2 l0_1 x10_1) 1)) = true := decide_eq_true c66
     clear c66
     obtain ⟨y176, hy176⟩ : ∃ y_ : List Int, y_ = (([a1, a2] : List Int)) := ⟨_, rfl⟩
     replace H : (if x147001_1.length < 5864062014805 then ((some (x147001_1 ++ [y176] : List (List Int))).bind fun y179 => ((some (([] : List Int) : List Int)).bind fun y182 => (if y182.length + (rd_L2 l0_1 x10_1).length < 17592186044416 then (if y179.length < 5864062014805 then (spec_AddAttack.l0 kj11 a1 a2 true (wrap64 (x10_1 + 1)) a0_0 l0_1 a0_0 (y179 ++ [(y182 ++ (rd_L2 l0_1 x10_1))])) else (none)) else (none)))) else (none)) = some (r1, r2, r3) := hy_ hy176 H
     have Ny176 := Aside0.mk hy176
     clear hy176
     by_cases c67 : x147001_1.length < 5864062014805
     rotate_left
     ·rw [if_neg c67] at H
      exact absurd H (by simp)
     rw [if_pos c67] at H
     have LMc67 := Aside0.mk c67
     clear c67
     obtain ⟨y179, hy179⟩ : ∃ y_ : List (List Int), y_ = (x147001_1 ++ [y176]) := ⟨_, rfl⟩
     replace H : ((some (([] : List Int) : List Int)).bind fun y182 => (if y182.length + (rd_L2 l0_1 x10_1).length < 17592186044416 then (if y179.length < 5864062014805 then (spec_AddAttack.l0 kj11 a1 a2 true (wrap64 (x10_1 + 1)) a0_0 l0_1 a0_0 (y179 ++ [(y182 ++ (rd_L2 l0_1 x10_1))])) else (none)) else (none))) = some (r1, r2, r3) := hy_ hy179 H
     have Ny179 := Aside0.mk hy179
     clear hy179
     obtain ⟨y182, hy182⟩ : ∃ y_ : List Int, y_ = (([] : List Int)) := ⟨_, rfl⟩
     replace H : (if y182.length + (rd_L2 l0_1 x10_1).length < 17592186044416 then (if y179.length < 5864062014805 then (spec_AddAttack.l0 kj11 a1 a2 true (wrap64 (x10_1 + 1)) a0_0 l0_1 a0_0 (y179 ++ [(y182 ++ (rd_L2 l0_1 x10_1))])) else (none)) else (none)) = some (r1, r2, r3) := hy_ hy182 H
     have Ny182 := Aside0.mk hy182
     clear hy182
     by_cases c68 : y182.length + (rd_L2 l0_1 x10_1).length < 17592186044416
     rotate_left
     ·rw [if_neg c68] at H
      exact absurd H (by simp)
     rw [if_pos c68] at H
     have LMc68 := Aside0.mk c68
     clear c68
     obtain ⟨y185, hy185⟩ : ∃ y_ : List Int, y_ = (y182 ++ (rd_L2 l0_1 x10_1)) := ⟨_, rfl⟩
     replace H : (if y179.length < 5864062014805 then (spec_AddAttack.l0 kj11 a1 a2 true (wrap64 (x10_1 + 1)) a0_0 l0_1 a0_0 (y179 ++ [y185])) else (none)) = some (r1, r2, r3) := hy_ hy185 H
     have Ny185 := Aside0.mk hy185
     clear hy185
     by_cases c69 : y179.length < 5864062014805
     rotate_left
     ·rw [if_neg c69] at H
      exact absurd H (by simp)
     rw [if_pos c69] at H
     have LMc69 := Aside0.mk c69
     clear c69
     obtain ⟨y188, hy188⟩ : ∃ y_ : List (List Int), y_ = (y179 ++ [y185]) := ⟨_, rfl⟩
     replace H : (spec_AddAttack.l0 kj11 a1 a2 true (wrap64 (x10_1 + 1)) a0_0 l0_1 a0_0 y188) = some (r1, r2, r3) := hy_ hy188 H
     have Ny188 := Aside0.mk hy188
     clear hy188
     have H' := Aside0.mk H
     clear H
     have hnb70 := NB144_145.out
     have hnc70 := NB145_144.out
     have hnb71 := NB144_146.out
     have hnc71 := NB146_144.out
     obtain ⟨hcz72_0, hcz72_1, hfz72_0, hfz72_1⟩ := c2_ BK144.out
     have p148 : 0 ≤ (x10_1 : Int) := of_decide_eq_true as_
     have q148 : x10_1 < (l0_1.length : Int) := of_decide_eq_true as_
     obtain ⟨ad148, A148_0, c148_0, e148, hx148_0, hl148_0, hi148_0⟩ := at_L2 HR0_1.out x10_1 p148 q148
     cases e148
     replace hx148_0 := (HB.out.cell (World.block_lt_of_cell? w _ hx148_0)).trans hx148_0
     have HR148_0 := Aside0.mk hi148_0
     have HC148_0 := Aside0.mk hl148_0
     clear hi148_0 hl148_0
     replace p148 := eq_true p148
     replace q148 := eq_true q148
     have p158 : 0 ≤ (0 : Int) := (by omega)
     have q158 : 0 < ((rd_L2 l0_1 x10_1).length : Int) := of_decide_eq_true as_
     obtain ⟨ad158, e158, hx158_0⟩ := Zo HR148_0.out 0 p158 q158
     cases e158
     have qi158 : (0 < (rd_L2 l0_1 x10_1).length) = True := eq_true (by omega)
     (try rw [show ((0 : Int)).toNat = 0 from rfl] at hx158_0)
     (try rw [Addr.add_zero'] at hx158_0)
     replace hx158_0 := (HB.out.cell (World.block_lt_of_cell? w _ hx158_0)).trans hx158_0
     replace p158 := eq_true p158
     replace q158 := eq_true q158
     have p174 : 0 ≤ (0 : Int) := (by omega)
     have q174 : 0 < ((rd_L2 l0_1 x10_1).length : Int) := of_decide_eq_true as_
     obtain ⟨ad174, e174, hx174_0⟩ := Zo HR148_0.out 0 p174 q174
     obtain rfl : ad158 = ad174 := (by injection e174)
     have qi174 : (0 < (rd_L2 l0_1 x10_1).length) = True := eq_true (by omega)
     (try rw [show ((0 : Int)).toNat = 0 from rfl] at hx174_0)
     (try rw [Addr.add_zero'] at hx174_0)
     replace hx174_0 := (HB.out.cell (World.block_lt_of_cell? w _ hx174_0)).trans hx174_0
     replace p174 := eq_true p174
     replace q174 := eq_true q174
     have p175 : 0 ≤ (1 : Int) := (by omega)
     have q175 : 1 < ((rd_L2 l0_1 x10_1).length : Int) := of_decide_eq_true as_
     obtain ⟨ad175, e175, hx175_0⟩ := Zo HR148_0.out 1 p175 q175
     obtain rfl : ad158 = ad175 := (by injection e175)
     (try simp only [show (1 : Int).toNat = 1 from rfl, Nat.reduceMul, Nat.reduceEqDiff, Go.Addr.add, ↓reduceIte] at hx175_0)
     have qi175 : (1 < (rd_L2 l0_1 x10_1).length) = True := eq_true (by omega)
     (try rw [show ((1 : Int)).toNat = 1 from rfl] at hx175_0)
     replace hx175_0 := (HB.out.cell (World.block_lt_of_cell? w _ hx175_0)).trans hx175_0
     replace p175 := eq_true p175
     replace q175 := eq_true q175
     have hnb73 := NB146_145.out
     have hnc73 := NB145_146.out
     obtain ⟨hcz74_0, hcz74_1, hfz74_0, hfz74_1⟩ := c2_ BK146.out
     try go_wp2_with (first | ((with_reducible refine Zz (N := 58) rfl ?_); refine Kd.R_lit (Kd.int .i64) _ 3 ?hg (N := 58) ?hd (xs := ([a1, a2] : List Int)) (inner := [.int .i64 a1, .int .i64 a2]) (ok := fun _ => True) (okp := fun _ => True) ?hr ?hp (fun _ hk => hk) trivial (Below.refl _ _) (Nat.le_refl _) (by simp) ?_; (case hd => rfl); (case hg => rfl); (case hr => first | (go_simp; done) | (go_simp; rfl)); (case hp => exact (Reps.one (show Kd.M (Kd.int .i64) _ _ _ a1 [.int .i64 a1] from rfl) (Reps.one (show Kd.M (Kd.int .i64) _ _ _ a2 [.int .i64 a2] from rfl) (Reps.none _ _)))); intro v177 w75 ho76 hb hg_ hnew_; clear hg_ hnew_; (first | rw [← Ny176.out] at ho76 | (simp only [Int.reduceToNat] at ho76; rw [← Ny176.out] at ho76)); replace HO_147001 := Aside0.mk (Kd.S_elder' (rS_ HO_147001.out) (Kd.R_base ho76) hb); have HO178 := Aside0.mk (Kd.R_lower ho76 (Ze hB_)); replace BK144 := Aside0.mk (Zd (bq_ BK144.out) hb); replace BK145 := Aside0.mk (Zd (bq_ BK145.out) hb); replace BK146 := Aside0.mk (Zd (bq_ BK146.out) hb); replace HB := Aside0.mk (Zc hB_ hb); clear hb ho76; obtain ⟨Ao78, co78, eo78⟩ := Kd.R_slice HO178.out; subst eo78) | ((with_reducible refine gate_builtin (b := .append) (xs := #[.tmp 55, .tmp 59]) rfl ?_); at_builtin; refine Kd.S_append (Kd.slice 3 (Kd.int .i64)) (w0 := w) w.heap.size rfl (.tmp 55) (.tmp 59) 22 31 (.slice none 0 0) 24 rfl Try.underlying22 info31 rfl (by decide) (by omega) u147001 x147001_1 y176 [.slice Ao78 y176.length co78] (fun _ => True) (fun k_ => some k_ = (.slice Ao78 y176.length co78 : Value).ownBlock) rfl rfl ?aP (fun k_ hk_ => ((ZK (ok' := fun k_ => ((fun _ => True)) k_ ∧ some k_ ≠ (u147001 : Value).ownBlock) (ZN (HO178.out) (Kd.S_typed HO_147001.out) (by decide)) (fun k_ hk => ⟨trivial, hk.2⟩))).1 k_ hk_.symm) ?aF ?aO ?aB ?aS ?aL ?_; (case aP => exact Kd.M_row (ZK (Kd.R_tight rfl (ZK (ok' := fun k_ => ((fun _ => True)) k_ ∧ some k_ ≠ (u147001 : Value).ownBlock) (ZN (HO178.out) (Kd.S_typed HO_147001.out) (by decide)) (fun k_ hk => ⟨trivial, hk.2⟩))) (fun _ h_ => h_))); (case aB => exact hB_); (case aF => exact (fun _ _ => trivial)); (case aO => exact (by (with_reducible repeat (first | apply Kd.S_alloc | apply Kd.S_drewN | apply Kd.S_drew)); exact ZT HO_147001.out (fun k_ hk => ⟨trivial, fun e_ => hk.2 e_⟩))); (case aS => exact (Ze hB_)); (case aL => have := LMc67.out; omega); intro v180 w77 ho hb hg hat; rw [← Ny179.out] at ho; have n0_ := Aside0.mk (ZJ (bq_ BK144.out) hg (Kd.S_ne HO_147001.out BK144.out (by decide))); have n1_ := Aside0.mk (ZJ (bq_ BK145.out) hg (Kd.S_ne HO_147001.out BK145.out (by decide))); have n2_ := Aside0.mk (ZJ (bq_ BK146.out) hg (Kd.S_ne HO_147001.out BK146.out (by decide))); have n3_ := Aside0.mk (hb); have n4_ := Aside0.mk (ho); clear BK144; clear BK145; clear BK146; clear HB; clear HO_147001; clear HO178; have BK144 := n0_; have BK145 := n1_; have BK146 := n2_; have HB := n3_; have HO181 := n4_; clear n0_ n1_ n2_ n3_ n4_; clear ho hb hg hat; obtain ⟨Ao79, co79, eo79⟩ := Kd.S_slice HO181.out; subst eo79; obtain ⟨hcz80_0, hcz80_1, hfz80_0, hfz80_1⟩ := c2_ BK146.out))
     have n0_ : Aside0 (Kd.S (Kd.slice 3 (Kd.int .i64)) 31 (w77.setCell ⟨gb146, 1, none⟩ (.slice Ao79 y179.length co79)) w.heap.size (fun _ => True) (.slice Ao79 y179.length co79) y179) := ⟨by (with_reducible repeat (first | apply Kd.S_alloc | apply Kd.S_drewN | apply Kd.S_drew)); exact ZT (Kd.S_far (p := ⟨gb146, 1, none⟩) (Kd.S_types HO181.out BK146.out (by decide)) (fun _ hk => hk.2) (.slice Ao79 y179.length co79)) (fun _ hk => trivial)⟩
     have n1_ : Aside0 ((w77.setCell ⟨gb146, 1, none⟩ (.slice Ao79 y179.length co79)).heap[gb144]? = some (.cells #[.int .i64 a0_0, .slice (some ad148) l0_1.length c0_1] 27 (0, 0))) := ⟨by (with_reducible repeat (first | refine Zk ?_ _ | refine Zj ?_ | refine Zi ?_ _)); refine blk_far ?_ NB144_146.out _; (with_reducible repeat (first | refine Zk ?_ _ | refine Zj ?_ | refine Zi ?_ _)); exact BK144.out⟩
     have n2_ : Aside0 ((w77.setCell ⟨gb146, 1, none⟩ (.slice Ao79 y179.length co79)).heap[gb145]? = some (.cells #[.int .i64 0, .slice none 0 0] 27 (0, 0))) := ⟨by (with_reducible repeat (first | refine Zk ?_ _ | refine Zj ?_ | refine Zi ?_ _)); refine blk_far ?_ NB145_146.out _; (with_reducible repeat (first | refine Zk ?_ _ | refine Zj ?_ | refine Zi ?_ _)); exact BK145.out⟩
     have n3_ : Aside0 ((w77.setCell ⟨gb146, 1, none⟩ (.slice Ao79 y179.length co79)).heap[gb146]? = some (.cells #[.int .i64 a0_0, .slice Ao79 y179.length co79] 27 (0, 0))) := ⟨by (with_reducible repeat (first | refine Zk ?_ _ | refine Zj ?_ | refine Zi ?_ _)); refine blk_put (cs := #[.int .i64 a0_0, u147001]) ?_ 1 _ rfl; (with_reducible repeat (first | refine Zk ?_ _ | refine Zj ?_ | refine Zi ?_ _)); exact BK146.out⟩
     have n4_ : Aside0 (Below w.heap.size w (w77.setCell ⟨gb146, 1, none⟩ (.slice Ao79 y179.length co79))) := ⟨hB_⟩
     (try clear HO181)
     (try clear BK144)
     (try clear BK145)
     (try clear BK146)
     (try clear HB)
     generalize (w77.setCell ⟨gb146, 1, none⟩ (.slice Ao79 y179.length co79)) = w81 at n0_ n1_ n2_ n3_ n4_ ⊢
     have HO181 := n0_
     have BK144 := n1_
     have BK145 := n2_
     have BK146 := n3_
     have HB := n4_
     clear n0_ n1_ n2_ n3_ n4_
     replace HO181 := Aside0.mk (Kd.S_drew HO181.out)
     replace BK144 := Aside0.mk (Zj BK144.out)
     replace BK145 := Aside0.mk (Zj BK145.out)
     replace BK146 := Aside0.mk (Zj BK146.out)
     replace HB := Aside0.mk (Zq HB.out)
     refine start_ (n := 9) (S := fun w' => w'.cell? ⟨gb146, 0, none⟩ = some (.int .i64 a0_0) ∧ w'.cell? ⟨gb146, 1, none⟩ = some (.slice Ao79 y179.length co79)) (ds := [8]) (m_ 9 0) (by kernel_rfl) rfl rfl ⟨(Za BK146.out 0).trans rfl, (Za BK146.out 1).trans rfl⟩ (fun hHeld => ?_); refine with_tabW spec_AddAttack.tab10 spec_AddAttack.bits10 (fun HT_ HW_ => ?_)
     generalize w81.drew = w82 at HO181 BK144 BK145 BK146 HB hHeld ⊢
     refine pu_ 0 62 (m_ 9 1) ?_
     refine pu_ 3 65 (m_ 9 9) ?_
     refine tk2_ 1 63 (m_ 9 11) hHeld ?_
     refine on_ 2 64 (m_ 9 15) (fun K hK => ?_)
     refine Kd.R_lit_step (Kd.int .i64) _ 3 ?hg (N := 64) ?hd (xs := ([] : List Int)) (inner := []) (ok := fun _ => True) (okp := fun _ => True) ?hr ?hp (fun _ hk => hk) trivial (Below.refl _ _) (Nat.le_refl _) (by simp) ?_; (case hd => rfl); (case hg => rfl); (case hr => first | (go_simp; done) | (go_simp; rfl)); (case hp => exact (Reps.none _ _))
     intro v183 w83 ho84 hb hg_ hnew_
     clear hg_ hnew_
     (first | rw [← Ny182.out] at ho84 | (simp only [Int.reduceToNat] at ho84; rw [← Ny182.out] at ho84))
     replace HO181 := Aside0.mk (Kd.S_elder' (rS_ HO181.out) (Kd.R_base ho84) hb)
     have HO184 := Aside0.mk (Kd.R_lower ho84 (Ze hB_))
     replace BK144 := Aside0.mk (Zd (bq_ BK144.out) hb)
     replace BK145 := Aside0.mk (Zd (bq_ BK145.out) hb)
     replace BK146 := Aside0.mk (Zd (bq_ BK146.out) hb)
     replace HB := Aside0.mk (Zc hB_ hb)
     clear hb ho84
     refine hK.out _ _ ⟨(Za BK146.out 0).trans rfl, (Za BK146.out 1).trans rfl⟩ (fun hHeld => ?_)
     clear hK K
     refine no_ 64 ?_
     refine on_ 4 66 (m_ 9 31) (fun K hK => ?_)
     refine Kd.R_append_rows_step (Kd.int .i64) (w0 := w) w.heap.size (by rfl) (.tmp 64) (.tmp 65) 31 3 (.int .i64 0) 8 rfl Try.underlying31 info3 rfl (by decide) (by omega) v183 y182 (rd_L2 l0_1 x10_1) _ _ _ (fun _ => True) (fun _ => False) rfl rfl ?aO ?aR (fun _ _ h => h) (fun _ h => h.elim) ?aF ?aB ?aS ?aL ?_
     (case aR => exact cb_ HR148_0.out)
     (case aB => exact hB_)
     (case aF => exact (fun _ _ => trivial))
     (case aO => exact (rR_ HO184.out))
     (case aS => exact (Ze hB_))
     (case aL => have := LMc68.out; omega)
     intro v186 w85 ho hb hg hat
     rw [← Ny185.out] at ho
     have n0_ := Aside0.mk (ZJ (bq_ BK144.out) hg (Kd.R_ne HO184.out BK144.out (by decide)))
     have n1_ := Aside0.mk (ZJ (bq_ BK145.out) hg (Kd.R_ne HO184.out BK145.out (by decide)))
     have n2_ := Aside0.mk (ZJ (bq_ BK146.out) hg (Kd.R_ne HO184.out BK146.out (by decide)))
     have n3_ := Aside0.mk (Kd.S_after (ok := (fun _ => True)) (rS_ HO181.out) hg hat)
     have n4_ := Aside0.mk (hb)
     have n5_ := Aside0.mk (ho)
     clear BK144
     clear BK145
     clear BK146
     clear HO181
     clear HB
     clear HO184
     have BK144 := n0_
     have BK145 := n1_
     have BK146 := n2_
     have HO181 := n3_
     have HB := n4_
     have HO187 := n5_
     clear n0_ n1_ n2_ n3_ n4_ n5_
     clear ho hb hg hat
     obtain ⟨Ao87, co87, eo87⟩ := Kd.R_slice HO187.out
     (first | subst eo87 | (injection eo87 with f1_ f2_ f3_; have f4_ := f1_.symm; have f5_ := f3_.symm; clear f1_ f2_ f3_; subst f4_; subst f5_))
     refine hK.out _ _ ⟨(Za BK146.out 0).trans rfl, (Za BK146.out 1).trans rfl⟩ (fun hHeld => ?_)
     clear hK K
     refine no_ 66 ?_
     refine on_ 5 67 (m_ 9 63) (fun K hK => ?_)
     refine value_ (w1 := ?_) (v := ?_) (by rfl) rfl ?_ ?_
     rotate_left 2
     ·go_simp
      constructor
      ·rfl
      rfl
     refine hK.out _ _ ⟨(Za (Zi BK146.out _) 0).trans rfl, (Za (Zi BK146.out _) 1).trans rfl⟩ (fun hHeld => ?_)
     clear hK K
     refine no_ 67 ?_
     refine on_ 6 68 (m_ 9 127) (fun K hK => ?_)
     refine Kd.S_append_step (Kd.slice 3 (Kd.int .i64)) (w0 := w) w.heap.size (by rfl) (.tmp 63) (.tmp 67) 22 31 (.slice none 0 0) 24 rfl Try.underlying22 info31 rfl (by decide) (by omega) (.slice Ao79 y179.length co79) y179 y185 [.slice Ao87 y185.length co87] (fun _ => True) (fun k_ => some k_ = (.slice Ao87 y185.length co87 : Value).ownBlock) rfl rfl ?aP (fun k_ hk_ => ((ZK (ok' := fun k_ => ((fun _ => True)) k_ ∧ some k_ ≠ (.slice Ao79 y179.length co79 : Value).ownBlock) (ZN (HO187.out) (Kd.S_typed HO181.out) (by decide)) (fun k_ hk => ⟨trivial, hk.2⟩))).1 k_ hk_.symm) ?aF ?aO ?aB ?aS ?aL ?_
     (case aP => exact Kd.M_row (ZK (Kd.R_tight rfl (ZK (ok' := fun k_ => ((fun _ => True)) k_ ∧ some k_ ≠ (.slice Ao79 y179.length co79 : Value).ownBlock) (ZN (HO187.out) (Kd.S_typed HO181.out) (by decide)) (fun k_ hk => ⟨trivial, hk.2⟩))) (fun _ h_ => h_)))
     (case aB => exact hB_)
     (case aF => exact (fun _ _ => trivial))
     (case aO => exact (by (with_reducible repeat (first | apply Kd.S_alloc | apply Kd.S_drewN | apply Kd.S_drew)); exact ZT HO181.out (fun k_ hk => ⟨trivial, fun e_ => hk.2 e_⟩)))
     (case aS => exact (Ze hB_))
     (case aL => have := LMc69.out; omega)
     intro v189 w86 ho hb hg hat
     rw [← Ny188.out] at ho
     have n0_ := Aside0.mk (ZJ (bq_ BK144.out) hg (Kd.S_ne HO181.out BK144.out (by decide)))
     have n1_ := Aside0.mk (ZJ (bq_ BK145.out) hg (Kd.S_ne HO181.out BK145.out (by decide)))
     have n2_ := Aside0.mk (ZJ (bq_ BK146.out) hg (Kd.S_ne HO181.out BK146.out (by decide)))
     have n3_ := Aside0.mk (hb)
     have n4_ := Aside0.mk (ho)
     clear BK144
     clear BK145
     clear BK146
     clear HB
     clear HO181
     clear HO187
     have BK144 := n0_
     have BK145 := n1_
     have BK146 := n2_
     have HB := n3_
     have HO190 := n4_
     clear n0_ n1_ n2_ n3_ n4_
     clear ho hb hg hat
     obtain ⟨Ao88, co88, eo88⟩ := Kd.S_slice HO190.out
     (first | subst eo88 | (injection eo88 with f1_ f2_ f3_; have f4_ := f1_.symm; have f5_ := f3_.symm; clear f1_ f2_ f3_; subst f4_; subst f5_))
     refine hK.out _ _ ⟨(Za BK146.out 0).trans rfl, (Za BK146.out 1).trans rfl⟩ (fun hHeld => ?_)
     clear hK K
     refine no_ 68 ?_
     refine pu_ 7 69 (m_ 9 255) ?_
     refine last_ (i := 8) (N := none) (m_ 9 511) rfl rfl (one_of HT_.out (by kernel_rfl)) (by decide) (fun K hK => ?_)
     have hs89 : w86.cell? ⟨gb146, 1, none⟩ = some (.slice Ao79 y179.length co79) := (Za BK146.out 1).trans rfl
     have hfs89 := Zb BK146.out 1
     have hns89_0 := NB144_146.out
     have hns89_1 := NB145_146.out
     have hms89_0 := NB146_144.out
     have hms89_1 := NB146_145.out
     refine skip_ (w1 := ?_) (by rfl) rfl ?_ ?_
     rotate_left
     ·go_simp
      rfl
     refine hK.out _ _ ?_
     clear hK K
     refine done_ (done_of HT_.out (by kernel_rfl)) ?_
     try go_wp2
     go_roundg kj11
     case measure => have := HK1.out; have := HJ11.out; omega
     case rel => exact ⟨(true), (wrap64 (x10_1 + 1)), (y188), (.slice Ao88 y188.length co88), sm_, sm_, H', ⟨by have := HK1.out; have := HJ11.out; omega⟩, ⟨by (with_reducible repeat (first | apply Kd.S_alloc | apply Kd.S_drewN | apply Kd.S_drew)); exact ZT (Kd.S_far (p := ⟨gb146, 1, none⟩) (Kd.S_types HO190.out BK146.out (by decide)) (fun _ hk => hk.2) (.slice Ao88 y188.length co88)) (fun _ hk => trivial)⟩, ⟨by (with_reducible repeat (first | refine Zk ?_ _ | refine Zj ?_ | refine Zi ?_ _)); refine blk_far ?_ NB144_146.out _; (with_reducible repeat (first | refine Zk ?_ _ | refine Zj ?_ | refine Zi ?_ _)); exact BK144.out⟩, ⟨by (with_reducible repeat (first | refine Zk ?_ _ | refine Zj ?_ | refine Zi ?_ _)); refine blk_far ?_ NB145_146.out _; (with_reducible repeat (first | refine Zk ?_ _ | refine Zj ?_ | refine Zi ?_ _)); exact BK145.out⟩, ⟨by (with_reducible repeat (first | refine Zk ?_ _ | refine Zj ?_ | refine Zi ?_ _)); refine blk_put (cs := #[.int .i64 a0_0, .slice Ao79 y179.length co79]) ?_ 1 _ rfl; (with_reducible repeat (first | refine Zk ?_ _ | refine Zj ?_ | refine Zi ?_ _)); exact BK146.out⟩, ⟨hB_⟩⟩

end Go.Proofs.Ytdlobolnajcfnaa.PFnPositions
