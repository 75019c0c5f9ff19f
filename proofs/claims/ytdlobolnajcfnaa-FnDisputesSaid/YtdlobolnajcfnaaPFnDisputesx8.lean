-- Written by a program of this session (hooks of mine on the print): Lean checks it.
import Derived.Test.YtdlobolnajcfnaaPFnDisputesx0
import Derived.Test.YtdlobolnajcfnaaPFnDisputesx6
import Derived.Test.YtdlobolnajcfnaaPFnDisputesx7
namespace Go.Proofs.Ytdlobolnajcfnaa.PFnDisputes
open Go.RowKit Go.Proofs.YtdlobolnajcfnaaW.PrintWords Go.Proofs.YtdlobolnajcfnaaW.PrintLast Go.Proofs.YtdlobolnajcfnaaW.PrintMore
attribute [local go_sem] max2_int min2_int max_two min_two max_three min_three max_four min_four   -- for this text's walks alone
set_option linter.unusedVariables false
set_option linter.unusedSimpArgs false

/-! ### spec_AddAttack: function 102 -/
mutual
def spec_AddAttack.l0 : Nat → Int → Int → Bool → Int → Int → List (List Int) → Int → List (List Int) → Option (Int × (List (List Int)) × Bool)
 | 0, _, _, _, _, _, _, _, _ => none
 | k + 1, x1, x2, x9, x10, x254000, x254001, x256000, x256001 => if x10 < (x254001.length : Int) then ((spec_IsGraph.f k x254000 x254001).bind fun t256 => (spec_AddAttack.j1 k x1 x2 x9 x10 t256 x254000 x254001 x256000 x256001)) else (spec_AddAttack.j1 k x1 x2 x9 x10 false x254000 x254001 x256000 x256001)
def spec_AddAttack.j1 : Nat → Int → Int → Bool → Int → Bool → Int → List (List Int) → Int → List (List Int) → Option (Int × (List (List Int)) × Bool)
 | 0, _, _, _, _, _, _, _, _, _ => none
 | k + 1, x1, x2, x9, x10, x23, x254000, x254001, x256000, x256001 => if x23 = true then (if 0 ≤ x10 then (if x10 < (x254001.length : Int) then (if x9 = true then (spec_AddAttack.j2 k x1 x2 x9 x10 (rd_L2 x254001 x10) false x254000 x254001 x256000 x256001) else (if 0 < ((rd_L2 x254001 x10).length : Int) then (if (rd (rd_L2 x254001 x10) 0) > x1 then (spec_AddAttack.j2 k x1 x2 x9 x10 (rd_L2 x254001 x10) true x254000 x254001 x256000 x256001) else (if (rd (rd_L2 x254001 x10) 0) = x1 then (if 1 < ((rd_L2 x254001 x10).length : Int) then (spec_AddAttack.j2 k x1 x2 x9 x10 (rd_L2 x254001 x10) (decide ((rd (rd_L2 x254001 x10) 1) > x2)) x254000 x254001 x256000 x256001) else (none)) else (spec_AddAttack.j2 k x1 x2 x9 x10 (rd_L2 x254001 x10) false x254000 x254001 x256000 x256001))) else (none))) else (none)) else (none)) else (if x9 = true then (spec_AddAttack.j4 k x254000 x254001 x256000 x256001) else (if x256001.length < 5864062014805 then (spec_AddAttack.j4 k x254000 x254001 x256000 (x256001 ++ [(([x1, x2] : List Int))])) else (none)))
def spec_AddAttack.j2 : Nat → Int → Int → Bool → Int → List Int → Bool → Int → List (List Int) → Int → List (List Int) → Option (Int × (List (List Int)) × Bool)
 | 0, _, _, _, _, _, _, _, _, _, _ => none
 | k + 1, x1, x2, x9, x10, x11, x53, x254000, x254001, x256000, x256001 => if x53 = true then (if x256001.length < 5864062014805 then (spec_AddAttack.j3 k x1 x2 true x10 x11 x254000 x254001 x256000 (x256001 ++ [(([x1, x2] : List Int))])) else (none)) else (spec_AddAttack.j3 k x1 x2 x9 x10 x11 x254000 x254001 x256000 x256001)
def spec_AddAttack.j3 : Nat → Int → Int → Bool → Int → List Int → Int → List (List Int) → Int → List (List Int) → Option (Int × (List (List Int)) × Bool)
 | 0, _, _, _, _, _, _, _, _, _ => none
 | k + 1, x1, x2, x9, x10, x11, x254000, x254001, x256000, x256001 => (some (([] : List Int) : List Int)).bind fun y267 => (if y267.length + x11.length < 17592186044416 then (if x256001.length < 5864062014805 then (spec_AddAttack.l0 k x1 x2 x9 (wrap64 (x10 + 1)) x254000 x254001 x256000 (x256001 ++ [(y267 ++ x11)])) else (none)) else (none))
def spec_AddAttack.j4 : Nat → Int → List (List Int) → Int → List (List Int) → Option (Int × (List (List Int)) × Bool)
 | 0, _, _, _, _ => none
 | k + 1, x254000, x254001, x256000, x256001 => (spec_IsGraph.f k x254000 x254001).bind fun t282 => (if t282 = true then ((spec_IsGraph.f k x256000 x256001).bind fun t283 => (if t283 = true then (some (x256000, x256001, true)) else ((spec_l4Copy.f k x254000 x254001).bind fun bt284 => (some (bt284.1, bt284.2, false))))) else ((spec_l4Copy.f k x254000 x254001).bind fun bt288 => (some (bt288.1, bt288.2, false))))
end
def spec_AddAttack.f (k : Nat) (a0_0 : Int) (l0_1 : List (List Int)) (a1 : Int) (a2 : Int) : Option (Int × (List (List Int)) × Bool) := spec_AddAttack.l0 k a1 a2 false 0 a0_0 l0_1 a0_0 ([] : List (List Int))
theorem spec_AddAttack.mono_l : ∀ k, (∀ y0 y1 y2 y3 y4 y5 y6 y7, LeO (spec_AddAttack.l0 k y0 y1 y2 y3 y4 y5 y6 y7) (spec_AddAttack.l0 (k + 1) y0 y1 y2 y3 y4 y5 y6 y7)) ∧ (∀ y0 y1 y2 y3 y4 y5 y6 y7 y8, LeO (spec_AddAttack.j1 k y0 y1 y2 y3 y4 y5 y6 y7 y8) (spec_AddAttack.j1 (k + 1) y0 y1 y2 y3 y4 y5 y6 y7 y8)) ∧ (∀ y0 y1 y2 y3 y4 y5 y6 y7 y8 y9, LeO (spec_AddAttack.j2 k y0 y1 y2 y3 y4 y5 y6 y7 y8 y9) (spec_AddAttack.j2 (k + 1) y0 y1 y2 y3 y4 y5 y6 y7 y8 y9)) ∧ (∀ y0 y1 y2 y3 y4 y5 y6 y7 y8, LeO (spec_AddAttack.j3 k y0 y1 y2 y3 y4 y5 y6 y7 y8) (spec_AddAttack.j3 (k + 1) y0 y1 y2 y3 y4 y5 y6 y7 y8)) ∧ (∀ y0 y1 y2 y3, LeO (spec_AddAttack.j4 k y0 y1 y2 y3) (spec_AddAttack.j4 (k + 1) y0 y1 y2 y3))
 | 0 => ⟨fun _ _ _ _ _ _ _ _ r h => by simp [spec_AddAttack.l0] at h, fun _ _ _ _ _ _ _ _ _ r h => by simp [spec_AddAttack.j1] at h, fun _ _ _ _ _ _ _ _ _ _ r h => by simp [spec_AddAttack.j2] at h, fun _ _ _ _ _ _ _ _ _ r h => by simp [spec_AddAttack.j3] at h, fun _ _ _ _ r h => by simp [spec_AddAttack.j4] at h⟩
 | k + 1 => by
  obtain ⟨ih0, ih1, ih2, ih3, ih4⟩ := spec_AddAttack.mono_l k
  refine ⟨?_, ?_, ?_, ?_, ?_⟩
  ·intro y0 y1 y2 y3 y4 y5 y6 y7
   unfold spec_AddAttack.l0
   repeat' with_reducible first | apply ih0 | apply ih1 | apply ih2 | apply ih3 | apply ih4 | apply spec_IsGraph.mono | apply spec_l4Copy.mono | apply ZJ | apply Zn | refine Zu ?_ ?_ | refine Zo ?_ (fun _ => ?_)
  ·intro y0 y1 y2 y3 y4 y5 y6 y7 y8
   unfold spec_AddAttack.j1
   repeat' with_reducible first | apply ih0 | apply ih1 | apply ih2 | apply ih3 | apply ih4 | apply spec_IsGraph.mono | apply spec_l4Copy.mono | apply ZJ | apply Zn | refine Zu ?_ ?_ | refine Zo ?_ (fun _ => ?_)
  ·intro y0 y1 y2 y3 y4 y5 y6 y7 y8 y9
   unfold spec_AddAttack.j2
   repeat' with_reducible first | apply ih0 | apply ih1 | apply ih2 | apply ih3 | apply ih4 | apply spec_IsGraph.mono | apply spec_l4Copy.mono | apply ZJ | apply Zn | refine Zu ?_ ?_ | refine Zo ?_ (fun _ => ?_)
  ·intro y0 y1 y2 y3 y4 y5 y6 y7 y8
   unfold spec_AddAttack.j3
   repeat' with_reducible first | apply ih0 | apply ih1 | apply ih2 | apply ih3 | apply ih4 | apply spec_IsGraph.mono | apply spec_l4Copy.mono | apply ZJ | apply Zn | refine Zu ?_ ?_ | refine Zo ?_ (fun _ => ?_)
  ·intro y0 y1 y2 y3
   unfold spec_AddAttack.j4
   repeat' with_reducible first | apply ih0 | apply ih1 | apply ih2 | apply ih3 | apply ih4 | apply spec_IsGraph.mono | apply spec_l4Copy.mono | apply ZJ | apply Zn | refine Zu ?_ ?_ | refine Zo ?_ (fun _ => ?_)
theorem spec_AddAttack.mono : ∀ a0 a1 a2 a3 k, LeO (spec_AddAttack.f k a0 a1 a2 a3) (spec_AddAttack.f (k + 1) a0 a1 a2 a3) := by
 intro a0 a1 a2 a3 k
 obtain ⟨ih0, ih1, ih2, ih3, ih4⟩ := spec_AddAttack.mono_l k
 unfold spec_AddAttack.f
 repeat' with_reducible first | apply ih0 | apply ih1 | apply ih2 | apply ih3 | apply ih4 | apply spec_IsGraph.mono | apply spec_l4Copy.mono | apply ZJ | apply Zn | refine Zu ?_ ?_ | refine Zo ?_ (fun _ => ?_)
def spec_AddAttack.T10 : Bool × List (List Nat × List Nat) := (true, [([], []), ([0], [0]), ([], []), ([], []), ([2, 3], [2, 3]), ([4], [4]), ([1, 5, 4], [1, 5]), ([0, 1, 2, 3, 4, 5, 6], []), ([7, 6, 6, 0, 1, 2, 3, 4, 5, 6], [6, 7])])
def spec_AddAttack.B10 : List Nat := [0, 1, 0, 0, 12, 28, 63, 127, 255]
theorem spec_AddAttack.tab10 : rtab .any (opsOf Try.f102 10) = spec_AddAttack.T10 := by kernel_rfl
theorem spec_AddAttack.bits10 : waitsOk spec_AddAttack.T10.2 spec_AddAttack.B10 = true := by kernel_rfl
set_option maxHeartbeats 8000000 in
set_option maxRecDepth 100000 in
theorem spec_AddAttack.calls (k : Nat) (a0_0 : Int) (A0_1 : Option Addr) (c0_1 : Nat) (l0_1 : List (List Int)) (a1 : Int) (a2 : Int) (r1 : Int) (r2 : List (List Int)) (r3 : Bool) (w : World) (hr0_1 : Kd.C (Kd.slice 3 (Kd.int .i64)) w A0_1 l0_1.length l0_1) (hc0_1 : l0_1.length ≤ c0_1) (h : spec_AddAttack.f k a0_0 l0_1 a1 a2 = some (r1, r2, r3)) :
  Calls Try.prog 102 #[.agg #[.int .i64 a0_0, .slice A0_1 l0_1.length c0_1], .int .i64 a1, .int .i64 a2] w fun e w' => ∃ v1_ : Value, e = .returned (.tuple #[.agg #[.int .i64 r1, v1_], .bool r3]) ∧ Kd.S (Kd.slice 3 (Kd.int .i64)) 31 w' w.heap.size (fun _ => True) v1_ r2 ∧ Below w.heap.size w w' := by
 have hu27 := Try.underlying27
 have HR0_1 := Aside0.mk hr0_1
 have HC0_1 := Aside0.mk hc0_1
 clear hr0_1 hc0_1
 have HB := Aside0.mk (Below.refl w.heap.size w)
 have H := h
 unfold spec_AddAttack.f at H
 clear h
 have H' := Aside0.mk H
 clear H
 go_enter Try.func102, Try.ntmps102
 go_wp2_with (first | ((with_reducible refine ZA (N := 3) rfl ?_); refine ZC ?hg (N := 3) ?hd (cs := #[.int .i64 a0_0, .slice A0_1 l0_1.length c0_1]) (t := 27) ?hr ?_; (case hd => rfl); (case hg => rfl); (case hr => first | (go_simp; done) | (go_simp; rfl)); intro gb253 hg w4 hbox hb; have BK253 := Aside0.mk (hbox); have GW253 := Aside0.mk ((hz_ hg : w.heap.size ≤ gb253)); have GE253 := Aside0.mk ((hz_ hg : w.heap.size ≤ gb253)); replace HB := Aside0.mk (Zh hB_ hb); clear hb hbox hg) | ((with_reducible refine ZA (N := 6) rfl ?_); refine ZC ?hg (N := 6) ?hd (cs := #[.int .i64 0, .slice none 0 0]) (t := 27) ?hr ?_; (case hd => rfl); (case hg => rfl); (case hr => first | (go_simp; done) | (go_simp; rfl)); intro gb254 hg w5 hbox hb; have BK254 := Aside0.mk (hbox); have GW254 := Aside0.mk ((hz_ hg : w.heap.size ≤ gb254)); have GE254 := Aside0.mk ((hz_ hg : w.heap.size ≤ gb254)); replace HB := Aside0.mk (Zh hB_ hb); have NB253_254 := Aside0.mk ((by rw [hg]; exact Nat.ne_of_lt (ZS (bq_ BK253.out)) : gb253 ≠ gb254)); have NB254_253 := Aside0.mk ((by rw [hg]; exact Nat.ne_of_gt (ZS (bq_ BK253.out)) : gb254 ≠ gb253)); replace BK253 := Aside0.mk (Zg (bq_ BK253.out) hb); clear hb hbox hg; have hnb6 := NB253_254.out; have hnc6 := NB254_253.out; obtain ⟨hcz7_0, hcz7_1, hfz7_0, hfz7_1⟩ := c2_ BK253.out) | ((with_reducible refine ZA (N := 8) rfl ?_); refine ZC ?hg (N := 8) ?hd (cs := #[.int .i64 0, .slice none 0 0]) (t := 27) ?hr ?_; (case hd => rfl); (case hg => rfl); (case hr => first | (go_simp; done) | (go_simp; rfl)); intro gb255 hg w8 hbox hb; have BK255 := Aside0.mk (hbox); have GW255 := Aside0.mk ((hz_ hg : w.heap.size ≤ gb255)); have GE255 := Aside0.mk ((hz_ hg : w.heap.size ≤ gb255)); replace HB := Aside0.mk (Zh hB_ hb); have NB253_255 := Aside0.mk ((by rw [hg]; exact Nat.ne_of_lt (ZS (bq_ BK253.out)) : gb253 ≠ gb255)); have NB255_253 := Aside0.mk ((by rw [hg]; exact Nat.ne_of_gt (ZS (bq_ BK253.out)) : gb255 ≠ gb253)); replace BK253 := Aside0.mk (Zg (bq_ BK253.out) hb); have NB254_255 := Aside0.mk ((by rw [hg]; exact Nat.ne_of_lt (ZS (bq_ BK254.out)) : gb254 ≠ gb255)); have NB255_254 := Aside0.mk ((by rw [hg]; exact Nat.ne_of_gt (ZS (bq_ BK254.out)) : gb255 ≠ gb254)); replace BK254 := Aside0.mk (Zg (bq_ BK254.out) hb); clear hb hbox hg; have hnb9 := NB255_253.out; have hnc9 := NB253_255.out; have hnb10 := NB255_254.out; have hnc10 := NB254_255.out; obtain ⟨hcz11_0, hcz11_1, hfz11_0, hfz11_1⟩ := c2_ BK255.out))
 go_loopg [9, 10] k (fun kq v9 v10 w' => ∃ (x9_1 : Bool) (x10_1 : Int) (x256001_1 : List (List Int)) (u256001 : Value), v9 = .bool x9_1 ∧ v10 = .int .i64 x10_1 ∧ Aside0 (spec_AddAttack.l0 kq a1 a2 x9_1 x10_1 a0_0 l0_1 a0_0 x256001_1 = some (r1, r2, r3)) ∧ Aside0 (kq ≤ k) ∧ Aside0 (Kd.S (Kd.slice 3 (Kd.int .i64)) 31 w' w.heap.size (fun _ => True) u256001 x256001_1) ∧ Aside0 (w'.heap[gb253]? = some (.cells #[.int .i64 a0_0, (.slice A0_1 l0_1.length c0_1)] 27 (0, 0))) ∧ Aside0 (w'.heap[gb254]? = some (.cells #[.int .i64 0, (.slice none 0 0)] 27 (0, 0))) ∧ Aside0 (w'.heap[gb255]? = some (.cells #[.int .i64 a0_0, u256001] 27 (0, 0))) ∧ Aside0 (Below w.heap.size w w'))
 case atStart => exact ⟨(false), (0), (([] : List (List Int))), (.slice none 0 0), sm_, sm_, H', ⟨Nat.le_refl _⟩, ⟨by first | exact Kd.S_nil _ _ _ _ _ | exact Kd.N_nil _ _ _ _ _ | exact Kd.V_nil _ _ _ _ _ | exact Kd.Q_nil _ _ _ _ _ | exact Kd.R_nil _ _ _ _ _⟩, ⟨by (with_reducible repeat (first | refine Ze ?_ _ | refine Zf ?_ | refine Zd ?_ _)); refine ZG ?_ NB253_255.out _; (with_reducible repeat (first | refine Ze ?_ _ | refine Zf ?_ | refine Zd ?_ _)); refine ZG ?_ NB253_255.out _; (with_reducible repeat (first | refine Ze ?_ _ | refine Zf ?_ | refine Zd ?_ _)); exact BK253.out⟩, ⟨by (with_reducible repeat (first | refine Ze ?_ _ | refine Zf ?_ | refine Zd ?_ _)); refine ZG ?_ NB254_255.out _; (with_reducible repeat (first | refine Ze ?_ _ | refine Zf ?_ | refine Zd ?_ _)); refine ZG ?_ NB254_255.out _; (with_reducible repeat (first | refine Ze ?_ _ | refine Zf ?_ | refine Zd ?_ _)); exact BK254.out⟩, ⟨by (with_reducible repeat (first | refine Ze ?_ _ | refine Zf ?_ | refine Zd ?_ _)); refine ZB (cs := #[.int .i64 a0_0, .slice none 0 0]) ?_ 1 _ rfl; (with_reducible repeat (first | refine Ze ?_ _ | refine Zf ?_ | refine Zd ?_ _)); refine ZB (cs := #[.int .i64 0, .slice none 0 0]) ?_ 0 _ rfl; (with_reducible repeat (first | refine Ze ?_ _ | refine Zf ?_ | refine Zd ?_ _)); exact BK255.out⟩, ⟨hB_⟩⟩
 case round =>
  clear H'
  try clear c1
  try clear p2
  try clear c6
  try clear c9
  try clear c10
  try clear hcz11_0
  try clear hcz11_1
  try clear hcz7_0
  try clear hcz7_1
  try clear hfz11_0
  try clear hfz11_1
  try clear hfz7_0
  try clear hfz7_1
  obtain ⟨x9_1, x10_1, x256001_1, u256001, rfl, rfl, HA, HK1, HO_256001, BK253, BK254, BK255, HB⟩ := hrel
  cases gk with
  | zero => exact absurd HA.out (by simp [spec_AddAttack.l0])
  | succ k1 =>
   have H := HA.out
   clear HA
   simp only [spec_AddAttack.l0] at H
   have HC12 := Aside0.mk H
   clear H
   go_upto_region 4 with (fail)
   go_cut [23] (fun v23 wc => ∃ (kq : Nat) (x23_11 : Bool), v23 = .bool x23_11 ∧ Aside0 (spec_AddAttack.j1 kq a1 a2 x9_1 x10_1 x23_11 a0_0 l0_1 a0_0 x256001_1 = some (r1, r2, r3)) ∧ Aside0 (kq ≤ k1) ∧ Aside0 (Kd.S (Kd.slice 3 (Kd.int .i64)) 31 wc w.heap.size (fun _ => True) u256001 x256001_1) ∧ Aside0 (wc.heap[gb253]? = some (.cells #[.int .i64 a0_0, (.slice A0_1 l0_1.length c0_1)] 27 (0, 0))) ∧ Aside0 (wc.heap[gb254]? = some (.cells #[.int .i64 0, (.slice none 0 0)] 27 (0, 0))) ∧ Aside0 (wc.heap[gb255]? = some (.cells #[.int .i64 a0_0, u256001] 27 (0, 0))) ∧ Aside0 (Below w.heap.size w wc))
   case first =>
    have H := HC12.out
    clear HC12
    by_cases c13 : x10_1 < (l0_1.length : Int)
    rotate_left
    ·rw [if_neg c13] at H
     have c13b0 : decide (x10_1 < (l0_1.length : Int)) = false := decide_eq_false c13
     clear c13
     (first | rw [c13b0] | (simp only [i64_w, i32_w]; rw [c13b0]) | skip)
     have H' := Aside0.mk H
     clear H
     have hnb19 := NB253_254.out
     have hnc19 := NB254_253.out
     have hnb20 := NB253_255.out
     have hnc20 := NB255_253.out
     obtain ⟨hcz21_0, hcz21_1, hfz21_0, hfz21_1⟩ := c2_ BK253.out
     go_wp2
     go_meet
     case rel => exact ⟨_, (false), sm_, H', ⟨by have := HK1.out; first | omega | exact Nat.le_refl _⟩, ⟨rS_ HO_256001.out⟩, ⟨bk_ BK253.out⟩, ⟨bk_ BK254.out⟩, ⟨bk_ BK255.out⟩, ⟨hB_⟩⟩
    rw [if_pos c13] at H
    have c13b0 : decide (x10_1 < (l0_1.length : Int)) = true := decide_eq_true c13
    clear c13
    (first | rw [c13b0] | (simp only [i64_w, i32_w]; rw [c13b0]) | skip)
    obtain ⟨t256, A14, H⟩ := bd_ H
    try dsimp only at H
    have H' := Aside0.mk H
    clear H
    have hnb15 := NB253_254.out
    have hnc15 := NB254_253.out
    have hnb16 := NB253_255.out
    have hnc16 := NB255_253.out
    obtain ⟨hcz17_0, hcz17_1, hfz17_0, hfz17_1⟩ := c2_ BK253.out
    go_wp2_with (first | (go_at_call 57; (with_reducible refine (spec_IsGraph.calls k1 a0_0 _ _ l0_1 t256 _ ?side1 ?side2 A14.out).mono ?_); (case side1 => exact cb_ HR0_1.out); (case side2 => exact HC0_1.out); rintro e w18 ⟨rfl, hb⟩; replace HO_256001 := Aside0.mk (Zz (rS_ HO_256001.out) hb); replace BK253 := Aside0.mk (Zg (bq_ BK253.out) hb); replace BK254 := Aside0.mk (Zg (bq_ BK254.out) hb); replace BK255 := Aside0.mk (Zg (bq_ BK255.out) hb); replace HB := Aside0.mk (Zh hB_ hb); (try clear hb)))
    go_meet
    case rel => exact ⟨_, (t256), sm_, H', ⟨by have := HK1.out; first | omega | exact Nat.le_refl _⟩, ⟨rS_ HO_256001.out⟩, ⟨bk_ BK253.out⟩, ⟨bk_ BK254.out⟩, ⟨bk_ BK255.out⟩, ⟨hB_⟩⟩
   case rest =>
    clear HC12
    try clear c1
    try clear c2
    try clear p2
    try clear c6
    try clear c9
    try clear c10
    try clear c13
    try clear c13b0
    try clear c15
    try clear c16
    try clear c19
    try clear c20
    try clear hcz11_0
    try clear hcz11_1
    try clear hcz17_0
    try clear hcz17_1
    try clear hcz21_0
    try clear hcz21_1
    try clear hcz7_0
    try clear hcz7_1
    try clear hfz11_0
    try clear hfz11_1
    try clear hfz17_0
    try clear hfz17_1
    try clear hfz21_0
    try clear hfz21_1
    try clear hfz7_0
    try clear hfz7_1
    try clear p2
    obtain ⟨kq, x23_11, rfl, HA, HJ11, HO_256001, BK253, BK254, BK255, HB⟩ := hcut
    cases kq with
    | zero => exact absurd HA.out (by simp [spec_AddAttack.j1])
    | succ kj11 =>
     have H := HA.out
     clear HA
     simp only [spec_AddAttack.j1] at H
     by_cases c22 : x23_11 = true
     rotate_left
     ·replace c22 := Bool.eq_false_iff.mpr c22
      subst c22
      have H1 : (if x9_1 = true then (spec_AddAttack.j4 kj11 a0_0 l0_1 a0_0 x256001_1) else (if x256001_1.length < 5864062014805 then (spec_AddAttack.j4 kj11 a0_0 l0_1 a0_0 (x256001_1 ++ [(([a1, a2] : List Int))])) else (none))) = some (r1, r2, r3) := by rw [if_neg (show ¬ (false = true) by decide)] at H; exact H
      clear H
      have H := H1
      clear H1
      have HC56 := Aside0.mk H
      clear H
      go_upto_if 71 with (fail)
      go_cut [] (fun wc => ∃ (kq : Nat) (x256001_55 : List (List Int)) (u256001 : Value), Aside0 (spec_AddAttack.j4 kq a0_0 l0_1 a0_0 x256001_55 = some (r1, r2, r3)) ∧ Aside0 (kq ≤ kj11) ∧ Aside0 (Kd.S (Kd.slice 3 (Kd.int .i64)) 31 wc w.heap.size (fun _ => True) u256001 x256001_55) ∧ Aside0 (wc.heap[gb253]? = some (.cells #[.int .i64 a0_0, (.slice A0_1 l0_1.length c0_1)] 27 (0, 0))) ∧ Aside0 (wc.heap[gb254]? = some (.cells #[.int .i64 0, (.slice none 0 0)] 27 (0, 0))) ∧ Aside0 (wc.heap[gb255]? = some (.cells #[.int .i64 a0_0, u256001] 27 (0, 0))) ∧ Aside0 (Below w.heap.size w wc))
      case first =>
       have H := HC56.out
       clear HC56
       by_cases c57 : x9_1 = true
       ·subst c57
        have H1 : (spec_AddAttack.j4 kj11 a0_0 l0_1 a0_0 x256001_1) = some (r1, r2, r3) := by rw [if_pos rfl] at H; exact H
        clear H
        have H := H1
        clear H1
        have H' := Aside0.mk H
        clear H
        go_wp2
        go_meet
        case rel => exact ⟨_, (x256001_1), (u256001), H', ⟨by have := HK1.out; have := HJ11.out; first | omega | exact Nat.le_refl _⟩, ⟨rS_ HO_256001.out⟩, ⟨bk_ BK253.out⟩, ⟨bk_ BK254.out⟩, ⟨bk_ BK255.out⟩, ⟨hB_⟩⟩
       replace c57 := Bool.eq_false_iff.mpr c57
       subst c57
       have H1 : (if x256001_1.length < 5864062014805 then (spec_AddAttack.j4 kj11 a0_0 l0_1 a0_0 (x256001_1 ++ [(([a1, a2] : List Int))])) else (none)) = some (r1, r2, r3) := by rw [if_neg (show ¬ (false = true) by decide)] at H; exact H
       clear H
       have H := H1
       clear H1
       obtain ⟨y276, hy276⟩ : ∃ y_ : List Int, y_ = (([a1, a2] : List Int)) := ⟨_, rfl⟩
       replace H : (if x256001_1.length < 5864062014805 then (spec_AddAttack.j4 kj11 a0_0 l0_1 a0_0 (x256001_1 ++ [y276])) else (none)) = some (r1, r2, r3) := hy_ hy276 H
       have Ny276 := Aside0.mk hy276
       clear hy276
       by_cases c58 : x256001_1.length < 5864062014805
       rotate_left
       ·rw [if_neg c58] at H
        exact absurd H (by simp)
       rw [if_pos c58] at H
       have LMc58 := Aside0.mk c58
       clear c58
       obtain ⟨y279, hy279⟩ : ∃ y_ : List (List Int), y_ = (x256001_1 ++ [y276]) := ⟨_, rfl⟩
       replace H : (spec_AddAttack.j4 kj11 a0_0 l0_1 a0_0 y279) = some (r1, r2, r3) := hy_ hy279 H
       have Ny279 := Aside0.mk hy279
       clear hy279
       have H' := Aside0.mk H
       clear H
       have hnb59 := NB255_253.out
       have hnc59 := NB253_255.out
       have hnb60 := NB255_254.out
       have hnc60 := NB254_255.out
       obtain ⟨hcz61_0, hcz61_1, hfz61_0, hfz61_1⟩ := c2_ BK255.out
       go_wp2_with (first | ((with_reducible refine ZA (N := 76) rfl ?_); refine Kd.R_lit (Kd.int .i64) _ 3 ?hg (N := 76) ?hd (xs := ([a1, a2] : List Int)) (inner := [.int .i64 a1, .int .i64 a2]) (ok := fun _ => True) (okp := fun _ => True) ?hr ?hp (fun _ hk => hk) trivial (Below.refl _ _) (Nat.le_refl _) (by simp) ?_; (case hd => rfl); (case hg => rfl); (case hr => first | (go_simp; done) | (go_simp; rfl)); (case hp => exact (Reps.one (show Kd.M (Kd.int .i64) _ _ _ a1 [.int .i64 a1] from rfl) (Reps.one (show Kd.M (Kd.int .i64) _ _ _ a2 [.int .i64 a2] from rfl) (Reps.none _ _)))); intro v277 w62 ho63 hb hg_ hnew_; clear hg_ hnew_; (first | rw [← Ny276.out] at ho63 | (simp only [Int.reduceToNat] at ho63; rw [← Ny276.out] at ho63)); replace HO_256001 := Aside0.mk (Kd.S_elder' (rS_ HO_256001.out) (Kd.R_base ho63) hb); have HO278 := Aside0.mk (Kd.R_lower ho63 (Zm hB_)); replace BK253 := Aside0.mk (Zg (bq_ BK253.out) hb); replace BK254 := Aside0.mk (Zg (bq_ BK254.out) hb); replace BK255 := Aside0.mk (Zg (bq_ BK255.out) hb); replace HB := Aside0.mk (Zh hB_ hb); clear hb ho63; obtain ⟨Ao65, co65, eo65⟩ := Kd.R_slice HO278.out; subst eo65) | ((with_reducible refine gate_builtin (b := .append) (xs := #[.tmp 73, .tmp 77]) rfl ?_); at_builtin; refine Kd.S_append (Kd.slice 3 (Kd.int .i64)) (w0 := w) w.heap.size rfl (.tmp 73) (.tmp 77) 22 31 (.slice none 0 0) 24 rfl Try.underlying22 info31 rfl (by decide) (by omega) u256001 x256001_1 y276 [.slice Ao65 y276.length co65] (fun _ => True) (fun k_ => some k_ = (.slice Ao65 y276.length co65 : Value).ownBlock) rfl rfl ?aP (fun k_ hk_ => ((Zw (ok' := fun k_ => ((fun _ => True)) k_ ∧ some k_ ≠ (u256001 : Value).ownBlock) (Kd.R_apart' (HO278.out) (Kd.S_typed HO_256001.out) (by decide)) (fun k_ hk => ⟨trivial, hk.2⟩))).1 k_ hk_.symm) ?aF ?aO ?aB ?aS ?aL ?_; (case aP => exact Kd.M_row (Zw (Kd.R_tight rfl (Zw (ok' := fun k_ => ((fun _ => True)) k_ ∧ some k_ ≠ (u256001 : Value).ownBlock) (Kd.R_apart' (HO278.out) (Kd.S_typed HO_256001.out) (by decide)) (fun k_ hk => ⟨trivial, hk.2⟩))) (fun _ h_ => h_))); (case aB => exact hB_); (case aF => exact (fun _ _ => trivial)); (case aO => exact (by (with_reducible repeat (first | apply Zs | apply Zr | apply Zp)); exact Zt HO_256001.out (fun k_ hk => ⟨trivial, fun e_ => hk.2 e_⟩))); (case aS => exact (Zm hB_)); (case aL => have := LMc58.out; omega); intro v280 w64 ho hb hg hat; rw [← Ny279.out] at ho; have n0_ := Aside0.mk (ZT (bq_ BK253.out) hg (Kd.S_ne HO_256001.out BK253.out (by decide))); have n1_ := Aside0.mk (ZT (bq_ BK254.out) hg (Kd.S_ne HO_256001.out BK254.out (by decide))); have n2_ := Aside0.mk (ZT (bq_ BK255.out) hg (Kd.S_ne HO_256001.out BK255.out (by decide))); have n3_ := Aside0.mk (hb); have n4_ := Aside0.mk (ho); clear BK253; clear BK254; clear BK255; clear HB; clear HO_256001; clear HO278; have BK253 := n0_; have BK254 := n1_; have BK255 := n2_; have HB := n3_; have HO281 := n4_; clear n0_ n1_ n2_ n3_ n4_; clear ho hb hg hat; obtain ⟨Ao66, co66, eo66⟩ := ZN HO281.out; subst eo66; obtain ⟨hcz67_0, hcz67_1, hfz67_0, hfz67_1⟩ := c2_ BK255.out))
       go_meet
       case rel => exact ⟨_, (y279), (.slice Ao66 y279.length co66), H', ⟨by have := HK1.out; have := HJ11.out; first | omega | exact Nat.le_refl _⟩, ⟨by (with_reducible repeat (first | apply Zs | apply Zr | apply Zp)); exact Zt (Zq (p := ⟨gb255, 1, none⟩) (Zv HO281.out BK255.out (by decide)) (fun _ hk => hk.2) (.slice Ao66 y279.length co66)) (fun _ hk => trivial)⟩, ⟨by (with_reducible repeat (first | refine Ze ?_ _ | refine Zf ?_ | refine Zd ?_ _)); refine ZG ?_ NB253_255.out _; (with_reducible repeat (first | refine Ze ?_ _ | refine Zf ?_ | refine Zd ?_ _)); exact BK253.out⟩, ⟨by (with_reducible repeat (first | refine Ze ?_ _ | refine Zf ?_ | refine Zd ?_ _)); refine ZG ?_ NB254_255.out _; (with_reducible repeat (first | refine Ze ?_ _ | refine Zf ?_ | refine Zd ?_ _)); exact BK254.out⟩, ⟨by (with_reducible repeat (first | refine Ze ?_ _ | refine Zf ?_ | refine Zd ?_ _)); refine ZB (cs := #[.int .i64 a0_0, u256001]) ?_ 1 _ rfl; (with_reducible repeat (first | refine Ze ?_ _ | refine Zf ?_ | refine Zd ?_ _)); exact BK255.out⟩, ⟨hB_⟩⟩
      case rest =>
       clear HC56
       try clear c1
       try clear c2
       try clear p2
       try clear q2
       try clear hx2
       try clear qi2
       try clear c3
       try clear c4
       try clear c5
       try clear c6
       try clear p6
       try clear c9
       try clear c10
       try clear c13
       try clear c13b0
       try clear c15
       try clear c16
       try clear c19
       try clear c20
       try clear c22
       try clear c23
       try clear c23b0
       try clear c24
       try clear c24b0
       try clear c25
       try clear p25
       try clear q25
       try clear hx25
       try clear qi25
       try clear c26
       try clear p26
       try clear q26
       try clear hx26
       try clear qi26
       try clear c27
       try clear c29
       try clear c30
       try clear c30b0
       try clear c30b1
       try clear c31
       try clear c31b0
       try clear c32
       try clear c32b0
       try clear c32b1
       try clear c33
       try clear c33b0
       try clear c33b1
       try clear c35
       try clear c36
       try clear c37
       try clear c38
       try clear c46
       try clear c47
       try clear c57
       try clear c58
       try clear c59
       try clear c60
       try clear p64
       try clear hcz11_0
       try clear hcz11_1
       try clear hcz17_0
       try clear hcz17_1
       try clear hcz21_0
       try clear hcz21_1
       try clear hcz28_0
       try clear hcz28_1
       try clear hcz39_0
       try clear hcz39_1
       try clear hcz45_0
       try clear hcz45_1
       try clear hcz61_0
       try clear hcz61_1
       try clear hcz67_0
       try clear hcz67_1
       try clear hcz7_0
       try clear hcz7_1
       try clear hfz11_0
       try clear hfz11_1
       try clear hfz17_0
       try clear hfz17_1
       try clear hfz21_0
       try clear hfz21_1
       try clear hfz28_0
       try clear hfz28_1
       try clear hfz39_0
       try clear hfz39_1
       try clear hfz45_0
       try clear hfz45_1
       try clear hfz61_0
       try clear hfz61_1
       try clear hfz67_0
       try clear hfz67_1
       try clear hfz7_0
       try clear hfz7_1
       try clear hx257_0
       try clear hx258_0
       try clear hx259_0
       try clear hx260_0
       try clear p2
       try clear p25
       try clear p257
       try clear p258
       try clear p259
       try clear p26
       try clear p260
       try clear q2
       try clear q25
       try clear q257
       try clear q258
       try clear q259
       try clear q26
       try clear q260
       obtain ⟨kq, x256001_55, u256001, HA, HJ55, HO_256001, BK253, BK254, BK255, HB⟩ := hcut
       cases kq with
       | zero => exact absurd HA.out (by simp [spec_AddAttack.j4])
       | succ kj55 =>
        have H := HA.out
        clear HA
        simp only [spec_AddAttack.j4] at H
        obtain ⟨t282, A68, H⟩ := bd_ H
        try dsimp only at H
        by_cases c69 : t282 = true
        rotate_left
        ·replace c69 := Bool.eq_false_iff.mpr c69
         subst c69
         have H1 : ((spec_l4Copy.f kj55 a0_0 l0_1).bind fun bt288 => (some (bt288.1, bt288.2, false))) = some (r1, r2, r3) := by rw [if_neg (show ¬ (false = true) by decide)] at H; exact H
         clear H
         have H := H1
         clear H1
         obtain ⟨⟨t288, t289⟩, A95, H⟩ := bd_ H
         try dsimp only at H
         simp only [Option.some.injEq, Prod.mk.injEq] at H
         obtain ⟨rfl, rfl, rfl⟩ := H
         have hnb96 := NB253_254.out
         have hnc96 := NB254_253.out
         have hnb97 := NB253_255.out
         have hnc97 := NB255_253.out
         obtain ⟨hcz98_0, hcz98_1, hfz98_0, hfz98_1⟩ := c2_ BK253.out
         (try clear HO_256001)
         (try clear BK255)
         go_wp2_with (first | ((with_reducible refine Zl (f := 57) rfl ?_); refine ZI (some 81) rfl rfl Try.func57 (by kernel_rfl) rfl #[.agg #[.int .i64 a0_0, .slice A0_1 l0_1.length c0_1]] rfl ar_ ?_; (with_reducible refine (spec_IsGraph.calls kj55 a0_0 _ _ l0_1 false _ ?side1 ?side2 A68.out).mono ?_); (case side1 => exact cb_ HR0_1.out); (case side2 => exact HC0_1.out); rintro e w99 ⟨rfl, hb⟩; refine ⟨_, rfl, ?_⟩; replace BK253 := Aside0.mk (Zg (bq_ BK253.out) hb); replace BK254 := Aside0.mk (Zg (bq_ BK254.out) hb); replace HB := Aside0.mk (Zh hB_ hb); (try clear hb); obtain ⟨hcz100_0, hcz100_1, hfz100_0, hfz100_1⟩ := c2_ BK253.out; (try clear BK253)) | ((with_reducible refine Zl (f := 92) rfl ?_); refine ZI (some 89) rfl rfl Try.func92 (by kernel_rfl) rfl #[.agg #[.int .i64 a0_0, .slice A0_1 l0_1.length c0_1]] rfl ar_ ?_; (with_reducible refine (spec_l4Copy.calls kj55 a0_0 _ _ l0_1 t288 t289 _ ?side1 ?side2 A95.out).mono ?_); (case side1 => exact cb_ HR0_1.out); (case side2 => exact HC0_1.out); rintro e w101 ⟨v290, rfl, ho0, hb⟩; refine ⟨_, rfl, ?_⟩; have HO291 := Aside0.mk (Kd.S_lower ho0 (Zm hB_)); replace BK254 := Aside0.mk (Zg (bq_ BK254.out) hb); replace HB := Aside0.mk (Zh hB_ hb); (try clear hb); (try clear ho0); obtain ⟨hcz102_0, hcz102_1, hfz102_0, hfz102_1⟩ := c2_ BK254.out; obtain ⟨Ao103, co103, eo103⟩ := ZN HO291.out; subst eo103))
         refine bodyPost_ret (results_ct rfl _ _ gb254 27 #[.int .i64 t288, .slice Ao103 t289.length co103] (0, 0) _ rfl (by (with_reducible repeat (first | refine Ze ?_ _ | refine Zf ?_ | refine Zd ?_ _)); refine ZB (cs := #[.int .i64 t288, .slice none 0 0]) ?_ 1 _ rfl; (with_reducible repeat (first | refine Ze ?_ _ | refine Zf ?_ | refine Zd ?_ _)); refine ZB (cs := #[.int .i64 0, .slice none 0 0]) ?_ 0 _ rfl; (with_reducible repeat (first | refine Ze ?_ _ | refine Zf ?_ | refine Zd ?_ _)); exact BK254.out) Try.underlying27 rfl (by kernel_rfl)) rfl ?_
         exact ⟨_, er_, by (with_reducible repeat (first | apply Zs | apply Zr | apply Zp)); exact Zt (Zq (p := ⟨gb254, 1, none⟩) (Zq (p := ⟨gb254, 0, none⟩) (Zv HO291.out BK254.out (by decide)) (fun _ hk => hk.2) (.int .i64 t288)) (fun _ hk => hk.2) (.slice Ao103 t289.length co103)) (fun _ hk => trivial), hB_⟩
        subst c69
        have H1 : ((spec_IsGraph.f kj55 a0_0 x256001_55).bind fun t283 => (if t283 = true then (some (a0_0, x256001_55, true)) else ((spec_l4Copy.f kj55 a0_0 l0_1).bind fun bt284 => (some (bt284.1, bt284.2, false))))) = some (r1, r2, r3) := by rw [if_pos rfl] at H; exact H
        clear H
        have H := H1
        clear H1
        obtain ⟨t283, A70, H⟩ := bd_ H
        try dsimp only at H
        by_cases c71 : t283 = true
        ·subst c71
         have H1 : (some (a0_0, x256001_55, true)) = some (r1, r2, r3) := by rw [if_pos rfl] at H; exact H
         clear H
         have H := H1
         clear H1
         simp only [Option.some.injEq, Prod.mk.injEq] at H
         obtain ⟨rfl, rfl, rfl⟩ := H
         have hnb72 := NB253_254.out
         have hnc72 := NB254_253.out
         have hnb73 := NB253_255.out
         have hnc73 := NB255_253.out
         obtain ⟨hcz74_0, hcz74_1, hfz74_0, hfz74_1⟩ := c2_ BK253.out
         (try clear BK253)
         go_wp2_with (first | ((with_reducible refine Zl (f := 57) rfl ?_); refine ZI (some 81) rfl rfl Try.func57 (by kernel_rfl) rfl #[.agg #[.int .i64 a0_0, .slice A0_1 l0_1.length c0_1]] rfl ar_ ?_; (with_reducible refine (spec_IsGraph.calls kj55 a0_0 _ _ l0_1 true _ ?side1 ?side2 A68.out).mono ?_); (case side1 => exact cb_ HR0_1.out); (case side2 => exact HC0_1.out); rintro e w75 ⟨rfl, hb⟩; refine ⟨_, rfl, ?_⟩; replace HO_256001 := Aside0.mk (Zz (rS_ HO_256001.out) hb); replace BK254 := Aside0.mk (Zg (bq_ BK254.out) hb); replace BK255 := Aside0.mk (Zg (bq_ BK255.out) hb); replace HB := Aside0.mk (Zh hB_ hb); (try clear hb); have hnb76 := NB255_254.out; have hnc76 := NB254_255.out; obtain ⟨hcz77_0, hcz77_1, hfz77_0, hfz77_1⟩ := c2_ BK255.out; obtain ⟨Ao78, co78, eo78⟩ := ZN HO_256001.out; subst eo78) | (go_at_call 57; (with_reducible refine (spec_IsGraph.calls kj55 a0_0 _ _ x256001_55 true _ ?side1 ?side2 A70.out).mono ?_); (case side1 => exact sA_ (ZK HO_256001.out).2.2); (case side2 => exact (ZK HO_256001.out).2.1); rintro e w79 ⟨rfl, hb⟩; replace HO_256001 := Aside0.mk (Zz (rS_ HO_256001.out) hb); replace BK254 := Aside0.mk (Zg (bq_ BK254.out) hb); replace BK255 := Aside0.mk (Zg (bq_ BK255.out) hb); replace HB := Aside0.mk (Zh hB_ hb); (try clear hb); obtain ⟨hcz80_0, hcz80_1, hfz80_0, hfz80_1⟩ := c2_ BK255.out; obtain ⟨hcz81_0, hcz81_1, hfz81_0, hfz81_1⟩ := c2_ BK254.out))
         refine bodyPost_ret (results_ct rfl _ _ gb254 27 #[.int .i64 a0_0, .slice Ao78 x256001_55.length co78] (0, 0) _ rfl (by (with_reducible repeat (first | refine Ze ?_ _ | refine Zf ?_ | refine Zd ?_ _)); refine ZB (cs := #[.int .i64 a0_0, .slice none 0 0]) ?_ 1 _ rfl; (with_reducible repeat (first | refine Ze ?_ _ | refine Zf ?_ | refine Zd ?_ _)); refine ZB (cs := #[.int .i64 0, .slice none 0 0]) ?_ 0 _ rfl; (with_reducible repeat (first | refine Ze ?_ _ | refine Zf ?_ | refine Zd ?_ _)); exact BK254.out) Try.underlying27 rfl (by kernel_rfl)) rfl ?_
         exact ⟨_, er_, by (with_reducible repeat (first | apply Zs | apply Zr | apply Zp)); exact Zt (Zq (p := ⟨gb254, 1, none⟩) (Zq (p := ⟨gb254, 0, none⟩) (Zv HO_256001.out BK254.out (by decide)) (fun _ hk => hk.2) (.int .i64 a0_0)) (fun _ hk => hk.2) (.slice Ao78 x256001_55.length co78)) (fun _ hk => trivial), hB_⟩
        replace c71 := Bool.eq_false_iff.mpr c71
        subst c71
        have H1 : ((spec_l4Copy.f kj55 a0_0 l0_1).bind fun bt284 => (some (bt284.1, bt284.2, false))) = some (r1, r2, r3) := by rw [if_neg (show ¬ (false = true) by decide)] at H; exact H
        clear H
        have H := H1
        clear H1
        obtain ⟨⟨t284, t285⟩, A82, H⟩ := bd_ H
        try dsimp only at H
        simp only [Option.some.injEq, Prod.mk.injEq] at H
        obtain ⟨rfl, rfl, rfl⟩ := H
        have hnb83 := NB253_254.out
        have hnc83 := NB254_253.out
        have hnb84 := NB253_255.out
        have hnc84 := NB255_253.out
        obtain ⟨hcz85_0, hcz85_1, hfz85_0, hfz85_1⟩ := c2_ BK253.out
        go_wp2_with (first | ((with_reducible refine Zl (f := 57) rfl ?_); refine ZI (some 81) rfl rfl Try.func57 (by kernel_rfl) rfl #[.agg #[.int .i64 a0_0, .slice A0_1 l0_1.length c0_1]] rfl ar_ ?_; (with_reducible refine (spec_IsGraph.calls kj55 a0_0 _ _ l0_1 true _ ?side1 ?side2 A68.out).mono ?_); (case side1 => exact cb_ HR0_1.out); (case side2 => exact HC0_1.out); rintro e w86 ⟨rfl, hb⟩; refine ⟨_, rfl, ?_⟩; replace HO_256001 := Aside0.mk (Zz (rS_ HO_256001.out) hb); replace BK253 := Aside0.mk (Zg (bq_ BK253.out) hb); replace BK254 := Aside0.mk (Zg (bq_ BK254.out) hb); replace BK255 := Aside0.mk (Zg (bq_ BK255.out) hb); replace HB := Aside0.mk (Zh hB_ hb); (try clear hb); have hnb87 := NB255_254.out; have hnc87 := NB254_255.out; obtain ⟨hcz88_0, hcz88_1, hfz88_0, hfz88_1⟩ := c2_ BK255.out; (try clear BK255); obtain ⟨Ao89, co89, eo89⟩ := ZN HO_256001.out; subst eo89) | (go_at_call 57; (with_reducible refine (spec_IsGraph.calls kj55 a0_0 _ _ x256001_55 false _ ?side1 ?side2 A70.out).mono ?_); (case side1 => exact sA_ (ZK HO_256001.out).2.2); (case side2 => exact (ZK HO_256001.out).2.1); rintro e w90 ⟨rfl, hb⟩; replace HO_256001 := Aside0.mk (Zz (rS_ HO_256001.out) hb); replace BK253 := Aside0.mk (Zg (bq_ BK253.out) hb); replace BK254 := Aside0.mk (Zg (bq_ BK254.out) hb); replace HB := Aside0.mk (Zh hB_ hb); (try clear hb); obtain ⟨hcz91_0, hcz91_1, hfz91_0, hfz91_1⟩ := c2_ BK253.out; (try clear HO_256001); (try clear BK253)) | ((with_reducible refine Zl (f := 92) rfl ?_); refine ZI (some 89) rfl rfl Try.func92 (by kernel_rfl) rfl #[.agg #[.int .i64 a0_0, .slice A0_1 l0_1.length c0_1]] rfl ar_ ?_; (with_reducible refine (spec_l4Copy.calls kj55 a0_0 _ _ l0_1 t284 t285 _ ?side1 ?side2 A82.out).mono ?_); (case side1 => exact cb_ HR0_1.out); (case side2 => exact HC0_1.out); rintro e w92 ⟨v286, rfl, ho0, hb⟩; refine ⟨_, rfl, ?_⟩; have HO287 := Aside0.mk (Kd.S_lower ho0 (Zm hB_)); replace BK254 := Aside0.mk (Zg (bq_ BK254.out) hb); replace HB := Aside0.mk (Zh hB_ hb); (try clear hb); (try clear ho0); obtain ⟨hcz93_0, hcz93_1, hfz93_0, hfz93_1⟩ := c2_ BK254.out; obtain ⟨Ao94, co94, eo94⟩ := ZN HO287.out; subst eo94))
        refine bodyPost_ret (results_ct rfl _ _ gb254 27 #[.int .i64 t284, .slice Ao94 t285.length co94] (0, 0) _ rfl (by (with_reducible repeat (first | refine Ze ?_ _ | refine Zf ?_ | refine Zd ?_ _)); refine ZB (cs := #[.int .i64 t284, .slice none 0 0]) ?_ 1 _ rfl; (with_reducible repeat (first | refine Ze ?_ _ | refine Zf ?_ | refine Zd ?_ _)); refine ZB (cs := #[.int .i64 0, .slice none 0 0]) ?_ 0 _ rfl; (with_reducible repeat (first | refine Ze ?_ _ | refine Zf ?_ | refine Zd ?_ _)); exact BK254.out) Try.underlying27 rfl (by kernel_rfl)) rfl ?_
        exact ⟨_, er_, by (with_reducible repeat (first | apply Zs | apply Zr | apply Zp)); exact Zt (Zq (p := ⟨gb254, 1, none⟩) (Zq (p := ⟨gb254, 0, none⟩) (Zv HO287.out BK254.out (by decide)) (fun _ hk => hk.2) (.int .i64 t284)) (fun _ hk => hk.2) (.slice Ao94 t285.length co94)) (fun _ hk => trivial), hB_⟩
     subst c22
     have H1 : (if 0 ≤ x10_1 then (if x10_1 < (l0_1.length : Int) then (if x9_1 = true then (spec_AddAttack.j2 kj11 a1 a2 x9_1 x10_1 (rd_L2 l0_1 x10_1) false a0_0 l0_1 a0_0 x256001_1) else (if 0 < ((rd_L2 l0_1 x10_1).length : Int) then (if (rd (rd_L2 l0_1 x10_1) 0) > a1 then (spec_AddAttack.j2 kj11 a1 a2 x9_1 x10_1 (rd_L2 l0_1 x10_1) true a0_0 l0_1 a0_0 x256001_1) else (if (rd (rd_L2 l0_1 x10_1) 0) = a1 then (if 1 < ((rd_L2 l0_1 x10_1).length : Int) then (spec_AddAttack.j2 kj11 a1 a2 x9_1 x10_1 (rd_L2 l0_1 x10_1) (decide ((rd (rd_L2 l0_1 x10_1) 1) > a2)) a0_0 l0_1 a0_0 x256001_1) else (none)) else (spec_AddAttack.j2 kj11 a1 a2 x9_1 x10_1 (rd_L2 l0_1 x10_1) false a0_0 l0_1 a0_0 x256001_1))) else (none))) else (none)) else (none)) = some (r1, r2, r3) := by rw [if_pos rfl] at H; exact H
     clear H
     have H := H1
     clear H1
     by_cases c23 : 0 ≤ x10_1
     rotate_left
     ·rw [if_neg c23] at H
      exact absurd H (by simp)
     rw [if_pos c23] at H
     have c23b0 : decide (0 ≤ x10_1) = true := decide_eq_true c23
     clear c23
     by_cases c24 : x10_1 < (l0_1.length : Int)
     rotate_left
     ·rw [if_neg c24] at H
      exact absurd H (by simp)
     rw [if_pos c24] at H
     have c24b0 : decide (x10_1 < (l0_1.length : Int)) = true := decide_eq_true c24
     clear c24
     have HC25 := Aside0.mk H
     clear H
     have hnb26 := NB253_254.out
     have hnc26 := NB254_253.out
     have hnb27 := NB253_255.out
     have hnc27 := NB255_253.out
     obtain ⟨hcz28_0, hcz28_1, hfz28_0, hfz28_1⟩ := c2_ BK253.out
     have p257 : 0 ≤ (x10_1 : Int) := of_decide_eq_true as_
     have q257 : x10_1 < (l0_1.length : Int) := of_decide_eq_true as_
     obtain ⟨ad257, A257_0, c257_0, e257, hx257_0, hl257_0, hi257_0⟩ := at_L2 HR0_1.out x10_1 p257 q257
     cases e257
     replace hx257_0 := (HB.out.cell (World.block_lt_of_cell? w _ hx257_0)).trans hx257_0
     have HR257_0 := Aside0.mk hi257_0
     have HC257_0 := Aside0.mk hl257_0
     clear hi257_0 hl257_0
     replace p257 := eq_true p257
     replace q257 := eq_true q257
     go_upto_region 7 with (fail)
     go_cut [53] (fun v53 wc => ∃ (kq : Nat) (x53_24 : Bool), v53 = .bool x53_24 ∧ Aside0 (spec_AddAttack.j2 kq a1 a2 x9_1 x10_1 (rd_L2 l0_1 x10_1) x53_24 a0_0 l0_1 a0_0 x256001_1 = some (r1, r2, r3)) ∧ Aside0 (kq ≤ kj11) ∧ Aside0 (Kd.S (Kd.slice 3 (Kd.int .i64)) 31 wc w.heap.size (fun _ => True) u256001 x256001_1) ∧ Aside0 (wc.heap[gb253]? = some (.cells #[.int .i64 a0_0, (.slice (some ad257) l0_1.length c0_1)] 27 (0, 0))) ∧ Aside0 (wc.heap[gb254]? = some (.cells #[.int .i64 0, (.slice none 0 0)] 27 (0, 0))) ∧ Aside0 (wc.heap[gb255]? = some (.cells #[.int .i64 a0_0, u256001] 27 (0, 0))) ∧ Aside0 (Below w.heap.size w wc))
     case first =>
      have H := HC25.out
      clear HC25
      by_cases c29 : x9_1 = true
      ·subst c29
       have H1 : (spec_AddAttack.j2 kj11 a1 a2 true x10_1 (rd_L2 l0_1 x10_1) false a0_0 l0_1 a0_0 x256001_1) = some (r1, r2, r3) := by rw [if_pos rfl] at H; exact H
       clear H
       have H := H1
       clear H1
       have H' := Aside0.mk H
       clear H
       go_wp2
       go_meet
       case rel => exact ⟨_, (false), sm_, H', ⟨by have := HK1.out; have := HJ11.out; first | omega | exact Nat.le_refl _⟩, ⟨rS_ HO_256001.out⟩, ⟨bk_ BK253.out⟩, ⟨bk_ BK254.out⟩, ⟨bk_ BK255.out⟩, ⟨hB_⟩⟩
      replace c29 := Bool.eq_false_iff.mpr c29
      subst c29
      have H1 : (if 0 < ((rd_L2 l0_1 x10_1).length : Int) then (if (rd (rd_L2 l0_1 x10_1) 0) > a1 then (spec_AddAttack.j2 kj11 a1 a2 false x10_1 (rd_L2 l0_1 x10_1) true a0_0 l0_1 a0_0 x256001_1) else (if (rd (rd_L2 l0_1 x10_1) 0) = a1 then (if 1 < ((rd_L2 l0_1 x10_1).length : Int) then (spec_AddAttack.j2 kj11 a1 a2 false x10_1 (rd_L2 l0_1 x10_1) (decide ((rd (rd_L2 l0_1 x10_1) 1) > a2)) a0_0 l0_1 a0_0 x256001_1) else (none)) else (spec_AddAttack.j2 kj11 a1 a2 false x10_1 (rd_L2 l0_1 x10_1) false a0_0 l0_1 a0_0 x256001_1))) else (none)) = some (r1, r2, r3) := by rw [if_neg (show ¬ (false = true) by decide)] at H; exact H
      clear H
      have H := H1
      clear H1
      by_cases c30 : 0 < ((rd_L2 l0_1 x10_1).length : Int)
      rotate_left
      ·rw [if_neg c30] at H
       exact absurd H (by simp)
      rw [if_pos c30] at H
      have c30b0 : decide (0 < ((rd_L2 l0_1 x10_1).length : Int)) = true := decide_eq_true c30
      have c30b1 : decide (0 < (rd_L2 l0_1 x10_1).length) = true := decide_eq_true (by omega)
      clear c30
      (first | rw [c30b0] | (simp only [i64_w, i32_w]; rw [c30b0]) | skip)
      by_cases c31 : (rd (rd_L2 l0_1 x10_1) 0) > a1
      ·rw [if_pos c31] at H
       have c31b0 : decide (a1 < (rd (rd_L2 l0_1 x10_1) 0)) = true := decide_eq_true c31
       clear c31
       have H' := Aside0.mk H
       clear H
       have p258 : 0 ≤ (0 : Int) := (by omega)
       have q258 : 0 < ((rd_L2 l0_1 x10_1).length : Int) := of_decide_eq_true as_
       obtain ⟨ad258, e258, hx258_0⟩ := Zx HR257_0.out 0 p258 q258
       cases e258
       have qi258 : (0 < (rd_L2 l0_1 x10_1).length) = True := eq_true (by omega)
       (try rw [show ((0 : Int)).toNat = 0 from rfl] at hx258_0)
       (try rw [Addr.add_zero'] at hx258_0)
       replace hx258_0 := (HB.out.cell (World.block_lt_of_cell? w _ hx258_0)).trans hx258_0
       replace p258 := eq_true p258
       replace q258 := eq_true q258
       go_wp2
       go_meet
       case rel => exact ⟨_, (true), sm_, H', ⟨by have := HK1.out; have := HJ11.out; first | omega | exact Nat.le_refl _⟩, ⟨rS_ HO_256001.out⟩, ⟨bk_ BK253.out⟩, ⟨bk_ BK254.out⟩, ⟨bk_ BK255.out⟩, ⟨hB_⟩⟩
      rw [if_neg c31] at H
      have c31b0 : decide (a1 < (rd (rd_L2 l0_1 x10_1) 0)) = false := decide_eq_false c31
      clear c31
      by_cases c32 : (rd (rd_L2 l0_1 x10_1) 0) = a1
      rotate_left
      ·rw [if_neg c32] at H
       have c32b0 : ((rd (rd_L2 l0_1 x10_1) 0) == a1) = false := beq_eq_false_iff_ne.mpr c32
       have c32b1 : ((rd (rd_L2 l0_1 x10_1) 0) != a1) = true := bne_iff_ne.mpr c32
       have H' := Aside0.mk H
       clear H
       have p258 : 0 ≤ (0 : Int) := (by omega)
       have q258 : 0 < ((rd_L2 l0_1 x10_1).length : Int) := of_decide_eq_true as_
       obtain ⟨ad258, e258, hx258_0⟩ := Zx HR257_0.out 0 p258 q258
       cases e258
       have qi258 : (0 < (rd_L2 l0_1 x10_1).length) = True := eq_true (by omega)
       (try rw [show ((0 : Int)).toNat = 0 from rfl] at hx258_0)
       (try rw [Addr.add_zero'] at hx258_0)
       replace hx258_0 := (HB.out.cell (World.block_lt_of_cell? w _ hx258_0)).trans hx258_0
       replace p258 := eq_true p258
       replace q258 := eq_true q258
       have p259 : 0 ≤ (0 : Int) := (by omega)
       have q259 : 0 < ((rd_L2 l0_1 x10_1).length : Int) := of_decide_eq_true as_
       obtain ⟨ad259, e259, hx259_0⟩ := Zx HR257_0.out 0 p259 q259
       obtain rfl : ad258 = ad259 := (by injection e259)
       have qi259 : (0 < (rd_L2 l0_1 x10_1).length) = True := eq_true (by omega)
       (try rw [show ((0 : Int)).toNat = 0 from rfl] at hx259_0)
       (try rw [Addr.add_zero'] at hx259_0)
       replace hx259_0 := (HB.out.cell (World.block_lt_of_cell? w _ hx259_0)).trans hx259_0
       replace p259 := eq_true p259
       replace q259 := eq_true q259
       go_wp2
       go_meet
       case rel => exact ⟨_, (false), sm_, H', ⟨by have := HK1.out; have := HJ11.out; first | omega | exact Nat.le_refl _⟩, ⟨rS_ HO_256001.out⟩, ⟨bk_ BK253.out⟩, ⟨bk_ BK254.out⟩, ⟨bk_ BK255.out⟩, ⟨hB_⟩⟩
      rw [if_pos c32] at H
      have c32b0 : ((rd (rd_L2 l0_1 x10_1) 0) == a1) = true := beq_iff_eq.mpr c32
      have c32b1 : ((rd (rd_L2 l0_1 x10_1) 0) != a1) = false := bne_eq_false_iff_eq.mpr c32
      clear c32
      by_cases c33 : 1 < ((rd_L2 l0_1 x10_1).length : Int)
      rotate_left
      ·rw [if_neg c33] at H
       exact absurd H (by simp)
      rw [if_pos c33] at H
      have c33b0 : decide (1 < ((rd_L2 l0_1 x10_1).length : Int)) = true := decide_eq_true c33
      have c33b1 : decide (1 < (rd_L2 l0_1 x10_1).length) = true := decide_eq_true (by omega)
      clear c33
      have H' := Aside0.mk H
      clear H
      have p258 : 0 ≤ (0 : Int) := (by omega)
      have q258 : 0 < ((rd_L2 l0_1 x10_1).length : Int) := of_decide_eq_true as_
      obtain ⟨ad258, e258, hx258_0⟩ := Zx HR257_0.out 0 p258 q258
      cases e258
      have qi258 : (0 < (rd_L2 l0_1 x10_1).length) = True := eq_true (by omega)
      (try rw [show ((0 : Int)).toNat = 0 from rfl] at hx258_0)
      (try rw [Addr.add_zero'] at hx258_0)
      replace hx258_0 := (HB.out.cell (World.block_lt_of_cell? w _ hx258_0)).trans hx258_0
      replace p258 := eq_true p258
      replace q258 := eq_true q258
      have p259 : 0 ≤ (0 : Int) := (by omega)
      have q259 : 0 < ((rd_L2 l0_1 x10_1).length : Int) := of_decide_eq_true as_
      obtain ⟨ad259, e259, hx259_0⟩ := Zx HR257_0.out 0 p259 q259
      obtain rfl : ad258 = ad259 := (by injection e259)
      have qi259 : (0 < (rd_L2 l0_1 x10_1).length) = True := eq_true (by omega)
      (try rw [show ((0 : Int)).toNat = 0 from rfl] at hx259_0)
      (try rw [Addr.add_zero'] at hx259_0)
      replace hx259_0 := (HB.out.cell (World.block_lt_of_cell? w _ hx259_0)).trans hx259_0
      replace p259 := eq_true p259
      replace q259 := eq_true q259
      have p260 : 0 ≤ (1 : Int) := (by omega)
      have q260 : 1 < ((rd_L2 l0_1 x10_1).length : Int) := of_decide_eq_true as_
      obtain ⟨ad260, e260, hx260_0⟩ := Zx HR257_0.out 1 p260 q260
      obtain rfl : ad258 = ad260 := (by injection e260)
      (try simp only [show (1 : Int).toNat = 1 from rfl, Nat.reduceMul, Nat.reduceEqDiff, Go.Addr.add, ↓reduceIte] at hx260_0)
      have qi260 : (1 < (rd_L2 l0_1 x10_1).length) = True := eq_true (by omega)
      (try rw [show ((1 : Int)).toNat = 1 from rfl] at hx260_0)
      replace hx260_0 := (HB.out.cell (World.block_lt_of_cell? w _ hx260_0)).trans hx260_0
      replace p260 := eq_true p260
      replace q260 := eq_true q260
      go_wp2
      go_meet
      case rel => exact ⟨_, (decide ((rd (rd_L2 l0_1 x10_1) 1) > a2)), sm_, H', ⟨by have := HK1.out; have := HJ11.out; first | omega | exact Nat.le_refl _⟩, ⟨rS_ HO_256001.out⟩, ⟨bk_ BK253.out⟩, ⟨bk_ BK254.out⟩, ⟨bk_ BK255.out⟩, ⟨hB_⟩⟩
     case rest =>
      clear HC25
      try clear c1
      try clear c2
      try clear p2
      try clear q2
      try clear hx2
      try clear qi2
      try clear c3
      try clear c6
      try clear c9
      try clear c10
      try clear c13
      try clear c13b0
      try clear c15
      try clear c16
      try clear c19
      try clear c20
      try clear c22
      try clear c23
      try clear c23b0
      try clear c24
      try clear c24b0
      try clear c25
      try clear p25
      try clear q25
      try clear hx25
      try clear qi25
      try clear c26
      try clear p26
      try clear q26
      try clear hx26
      try clear qi26
      try clear c27
      try clear c29
      try clear c30
      try clear c30b0
      try clear c30b1
      try clear c31
      try clear c31b0
      try clear c32
      try clear c32b0
      try clear c32b1
      try clear c33
      try clear c33b0
      try clear c33b1
      try clear hcz11_0
      try clear hcz11_1
      try clear hcz17_0
      try clear hcz17_1
      try clear hcz21_0
      try clear hcz21_1
      try clear hcz28_0
      try clear hcz28_1
      try clear hcz7_0
      try clear hcz7_1
      try clear hfz11_0
      try clear hfz11_1
      try clear hfz17_0
      try clear hfz17_1
      try clear hfz21_0
      try clear hfz21_1
      try clear hfz28_0
      try clear hfz28_1
      try clear hfz7_0
      try clear hfz7_1
      try clear hx257_0
      try clear hx258_0
      try clear hx259_0
      try clear hx260_0
      try clear p2
      try clear p257
      try clear p258
      try clear p259
      try clear p260
      try clear q257
      try clear q258
      try clear q259
      try clear q260
      obtain ⟨kq, x53_24, rfl, HA, HJ24, HO_256001, BK253, BK254, BK255, HB⟩ := hcut
      cases kq with
      | zero => exact absurd HA.out (by simp [spec_AddAttack.j2])
      | succ kj24 =>
       have H := HA.out
       clear HA
       simp only [spec_AddAttack.j2] at H
       have HC34 := Aside0.mk H
       clear H
       go_upto_if 53 with (fail)
       go_cut [9] (fun v9 wc => ∃ (kq : Nat) (x9_33 : Bool) (x256001_33 : List (List Int)) (u256001 : Value), v9 = .bool x9_33 ∧ Aside0 (spec_AddAttack.j3 kq a1 a2 x9_33 x10_1 (rd_L2 l0_1 x10_1) a0_0 l0_1 a0_0 x256001_33 = some (r1, r2, r3)) ∧ Aside0 (kq ≤ kj24) ∧ Aside0 (Kd.S (Kd.slice 3 (Kd.int .i64)) 31 wc w.heap.size (fun _ => True) u256001 x256001_33) ∧ Aside0 (wc.heap[gb253]? = some (.cells #[.int .i64 a0_0, (.slice (some ad257) l0_1.length c0_1)] 27 (0, 0))) ∧ Aside0 (wc.heap[gb254]? = some (.cells #[.int .i64 0, (.slice none 0 0)] 27 (0, 0))) ∧ Aside0 (wc.heap[gb255]? = some (.cells #[.int .i64 a0_0, u256001] 27 (0, 0))) ∧ Aside0 (Below w.heap.size w wc))
       case first =>
        have H := HC34.out
        clear HC34
        by_cases c35 : x53_24 = true
        rotate_left
        ·replace c35 := Bool.eq_false_iff.mpr c35
         subst c35
         have H1 : (spec_AddAttack.j3 kj24 a1 a2 x9_1 x10_1 (rd_L2 l0_1 x10_1) a0_0 l0_1 a0_0 x256001_1) = some (r1, r2, r3) := by rw [if_neg (show ¬ (false = true) by decide)] at H; exact H
         clear H
         have H := H1
         clear H1
         have H' := Aside0.mk H
         clear H
         go_wp2
         go_meet
         case rel => exact ⟨_, (x9_1), (x256001_1), (u256001), sm_, H', ⟨by have := HK1.out; have := HJ11.out; have := HJ24.out; first | omega | exact Nat.le_refl _⟩, ⟨rS_ HO_256001.out⟩, ⟨bk_ BK253.out⟩, ⟨bk_ BK254.out⟩, ⟨bk_ BK255.out⟩, ⟨hB_⟩⟩
        subst c35
        have H1 : (if x256001_1.length < 5864062014805 then (spec_AddAttack.j3 kj24 a1 a2 true x10_1 (rd_L2 l0_1 x10_1) a0_0 l0_1 a0_0 (x256001_1 ++ [(([a1, a2] : List Int))])) else (none)) = some (r1, r2, r3) := by rw [if_pos rfl] at H; exact H
        clear H
        have H := H1
        clear H1
        obtain ⟨y261, hy261⟩ : ∃ y_ : List Int, y_ = (([a1, a2] : List Int)) := ⟨_, rfl⟩
        replace H : (if x256001_1.length < 5864062014805 then (spec_AddAttack.j3 kj24 a1 a2 true x10_1 (rd_L2 l0_1 x10_1) a0_0 l0_1 a0_0 (x256001_1 ++ [y261])) else (none)) = some (r1, r2, r3) := hy_ hy261 H
        have Ny261 := Aside0.mk hy261
        clear hy261
        by_cases c36 : x256001_1.length < 5864062014805
        rotate_left
        ·rw [if_neg c36] at H
         exact absurd H (by simp)
        rw [if_pos c36] at H
        have LMc36 := Aside0.mk c36
        clear c36
        obtain ⟨y264, hy264⟩ : ∃ y_ : List (List Int), y_ = (x256001_1 ++ [y261]) := ⟨_, rfl⟩
        replace H : (spec_AddAttack.j3 kj24 a1 a2 true x10_1 (rd_L2 l0_1 x10_1) a0_0 l0_1 a0_0 y264) = some (r1, r2, r3) := hy_ hy264 H
        have Ny264 := Aside0.mk hy264
        clear hy264
        have H' := Aside0.mk H
        clear H
        have hnb37 := NB255_253.out
        have hnc37 := NB253_255.out
        have hnb38 := NB255_254.out
        have hnc38 := NB254_255.out
        obtain ⟨hcz39_0, hcz39_1, hfz39_0, hfz39_1⟩ := c2_ BK255.out
        go_wp2_with (first | ((with_reducible refine ZA (N := 58) rfl ?_); refine Kd.R_lit (Kd.int .i64) _ 3 ?hg (N := 58) ?hd (xs := ([a1, a2] : List Int)) (inner := [.int .i64 a1, .int .i64 a2]) (ok := fun _ => True) (okp := fun _ => True) ?hr ?hp (fun _ hk => hk) trivial (Below.refl _ _) (Nat.le_refl _) (by simp) ?_; (case hd => rfl); (case hg => rfl); (case hr => first | (go_simp; done) | (go_simp; rfl)); (case hp => exact (Reps.one (show Kd.M (Kd.int .i64) _ _ _ a1 [.int .i64 a1] from rfl) (Reps.one (show Kd.M (Kd.int .i64) _ _ _ a2 [.int .i64 a2] from rfl) (Reps.none _ _)))); intro v262 w40 ho41 hb hg_ hnew_; clear hg_ hnew_; (first | rw [← Ny261.out] at ho41 | (simp only [Int.reduceToNat] at ho41; rw [← Ny261.out] at ho41)); replace HO_256001 := Aside0.mk (Kd.S_elder' (rS_ HO_256001.out) (Kd.R_base ho41) hb); have HO263 := Aside0.mk (Kd.R_lower ho41 (Zm hB_)); replace BK253 := Aside0.mk (Zg (bq_ BK253.out) hb); replace BK254 := Aside0.mk (Zg (bq_ BK254.out) hb); replace BK255 := Aside0.mk (Zg (bq_ BK255.out) hb); replace HB := Aside0.mk (Zh hB_ hb); clear hb ho41; obtain ⟨Ao43, co43, eo43⟩ := Kd.R_slice HO263.out; subst eo43) | ((with_reducible refine gate_builtin (b := .append) (xs := #[.tmp 55, .tmp 59]) rfl ?_); at_builtin; refine Kd.S_append (Kd.slice 3 (Kd.int .i64)) (w0 := w) w.heap.size rfl (.tmp 55) (.tmp 59) 22 31 (.slice none 0 0) 24 rfl Try.underlying22 info31 rfl (by decide) (by omega) u256001 x256001_1 y261 [.slice Ao43 y261.length co43] (fun _ => True) (fun k_ => some k_ = (.slice Ao43 y261.length co43 : Value).ownBlock) rfl rfl ?aP (fun k_ hk_ => ((Zw (ok' := fun k_ => ((fun _ => True)) k_ ∧ some k_ ≠ (u256001 : Value).ownBlock) (Kd.R_apart' (HO263.out) (Kd.S_typed HO_256001.out) (by decide)) (fun k_ hk => ⟨trivial, hk.2⟩))).1 k_ hk_.symm) ?aF ?aO ?aB ?aS ?aL ?_; (case aP => exact Kd.M_row (Zw (Kd.R_tight rfl (Zw (ok' := fun k_ => ((fun _ => True)) k_ ∧ some k_ ≠ (u256001 : Value).ownBlock) (Kd.R_apart' (HO263.out) (Kd.S_typed HO_256001.out) (by decide)) (fun k_ hk => ⟨trivial, hk.2⟩))) (fun _ h_ => h_))); (case aB => exact hB_); (case aF => exact (fun _ _ => trivial)); (case aO => exact (by (with_reducible repeat (first | apply Zs | apply Zr | apply Zp)); exact Zt HO_256001.out (fun k_ hk => ⟨trivial, fun e_ => hk.2 e_⟩))); (case aS => exact (Zm hB_)); (case aL => have := LMc36.out; omega); intro v265 w42 ho hb hg hat; rw [← Ny264.out] at ho; have n0_ := Aside0.mk (ZT (bq_ BK253.out) hg (Kd.S_ne HO_256001.out BK253.out (by decide))); have n1_ := Aside0.mk (ZT (bq_ BK254.out) hg (Kd.S_ne HO_256001.out BK254.out (by decide))); have n2_ := Aside0.mk (ZT (bq_ BK255.out) hg (Kd.S_ne HO_256001.out BK255.out (by decide))); have n3_ := Aside0.mk (hb); have n4_ := Aside0.mk (ho); clear BK253; clear BK254; clear BK255; clear HB; clear HO_256001; clear HO263; have BK253 := n0_; have BK254 := n1_; have BK255 := n2_; have HB := n3_; have HO266 := n4_; clear n0_ n1_ n2_ n3_ n4_; clear ho hb hg hat; obtain ⟨Ao44, co44, eo44⟩ := ZN HO266.out; subst eo44; obtain ⟨hcz45_0, hcz45_1, hfz45_0, hfz45_1⟩ := c2_ BK255.out))
        go_meet
        case rel => exact ⟨_, (true), (y264), (.slice Ao44 y264.length co44), sm_, H', ⟨by have := HK1.out; have := HJ11.out; have := HJ24.out; first | omega | exact Nat.le_refl _⟩, ⟨by (with_reducible repeat (first | apply Zs | apply Zr | apply Zp)); exact Zt (Zq (p := ⟨gb255, 1, none⟩) (Zv HO266.out BK255.out (by decide)) (fun _ hk => hk.2) (.slice Ao44 y264.length co44)) (fun _ hk => trivial)⟩, ⟨by (with_reducible repeat (first | refine Ze ?_ _ | refine Zf ?_ | refine Zd ?_ _)); refine ZG ?_ NB253_255.out _; (with_reducible repeat (first | refine Ze ?_ _ | refine Zf ?_ | refine Zd ?_ _)); exact BK253.out⟩, ⟨by (with_reducible repeat (first | refine Ze ?_ _ | refine Zf ?_ | refine Zd ?_ _)); refine ZG ?_ NB254_255.out _; (with_reducible repeat (first | refine Ze ?_ _ | refine Zf ?_ | refine Zd ?_ _)); exact BK254.out⟩, ⟨by (with_reducible repeat (first | refine Ze ?_ _ | refine Zf ?_ | refine Zd ?_ _)); refine ZB (cs := #[.int .i64 a0_0, u256001]) ?_ 1 _ rfl; (with_reducible repeat (first | refine Ze ?_ _ | refine Zf ?_ | refine Zd ?_ _)); exact BK255.out⟩, ⟨hB_⟩⟩
       case rest =>
        clear HC34
        try clear c1
        try clear c2
        try clear p2
        try clear q2
        try clear hx2
        try clear qi2
        try clear c3
        try clear c6
        try clear c9
        try clear c10
        try clear c13
        try clear c13b0
        try clear c15
        try clear c16
        try clear c19
        try clear c20
        try clear c22
        try clear c23
        try clear c23b0
        try clear c24
        try clear c24b0
        try clear c25
        try clear p25
        try clear q25
        try clear hx25
        try clear qi25
        try clear c26
        try clear p26
        try clear q26
        try clear hx26
        try clear qi26
        try clear c27
        try clear c29
        try clear c30
        try clear c30b0
        try clear c30b1
        try clear c31
        try clear c31b0
        try clear c32
        try clear c32b0
        try clear c32b1
        try clear c33
        try clear c33b0
        try clear c33b1
        try clear c35
        try clear c36
        try clear c37
        try clear c38
        try clear hcz11_0
        try clear hcz11_1
        try clear hcz17_0
        try clear hcz17_1
        try clear hcz21_0
        try clear hcz21_1
        try clear hcz28_0
        try clear hcz28_1
        try clear hcz39_0
        try clear hcz39_1
        try clear hcz45_0
        try clear hcz45_1
        try clear hcz7_0
        try clear hcz7_1
        try clear hfz11_0
        try clear hfz11_1
        try clear hfz17_0
        try clear hfz17_1
        try clear hfz21_0
        try clear hfz21_1
        try clear hfz28_0
        try clear hfz28_1
        try clear hfz39_0
        try clear hfz39_1
        try clear hfz45_0
        try clear hfz45_1
        try clear hfz7_0
        try clear hfz7_1
        try clear hx257_0
        try clear hx258_0
        try clear hx259_0
        try clear hx260_0
        try clear p2
        try clear p25
        try clear p257
        try clear p258
        try clear p259
        try clear p26
        try clear p260
        try clear q2
        try clear q25
        try clear q257
        try clear q258
        try clear q259
        try clear q26
        try clear q260
        obtain ⟨kq, x9_33, x256001_33, u256001, rfl, HA, HJ33, HO_256001, BK253, BK254, BK255, HB⟩ := hcut
        cases kq with
        | zero => exact absurd HA.out (by simp [spec_AddAttack.j3])
        | succ kj33 =>
         have H := HA.out
         clear HA
         simp only [spec_AddAttack.j3] at H
         obtain ⟨y267, hy267⟩ : ∃ y_ : List Int, y_ = (([] : List Int)) := ⟨_, rfl⟩
         replace H : (if y267.length + (rd_L2 l0_1 x10_1).length < 17592186044416 then (if x256001_33.length < 5864062014805 then (spec_AddAttack.l0 kj33 a1 a2 x9_33 (wrap64 (x10_1 + 1)) a0_0 l0_1 a0_0 (x256001_33 ++ [(y267 ++ (rd_L2 l0_1 x10_1))])) else (none)) else (none)) = some (r1, r2, r3) := hy_ hy267 H
         have Ny267 := Aside0.mk hy267
         clear hy267
         by_cases c46 : y267.length + (rd_L2 l0_1 x10_1).length < 17592186044416
         rotate_left
         ·rw [if_neg c46] at H
          exact absurd H (by simp)
         rw [if_pos c46] at H
         have LMc46 := Aside0.mk c46
         clear c46
         obtain ⟨y270, hy270⟩ : ∃ y_ : List Int, y_ = (y267 ++ (rd_L2 l0_1 x10_1)) := ⟨_, rfl⟩
         replace H : (if x256001_33.length < 5864062014805 then (spec_AddAttack.l0 kj33 a1 a2 x9_33 (wrap64 (x10_1 + 1)) a0_0 l0_1 a0_0 (x256001_33 ++ [y270])) else (none)) = some (r1, r2, r3) := hy_ hy270 H
         have Ny270 := Aside0.mk hy270
         clear hy270
         by_cases c47 : x256001_33.length < 5864062014805
         rotate_left
         ·rw [if_neg c47] at H
          exact absurd H (by simp)
         rw [if_pos c47] at H
         have LMc47 := Aside0.mk c47
         clear c47
         obtain ⟨y273, hy273⟩ : ∃ y_ : List (List Int), y_ = (x256001_33 ++ [y270]) := ⟨_, rfl⟩
         replace H : (spec_AddAttack.l0 kj33 a1 a2 x9_33 (wrap64 (x10_1 + 1)) a0_0 l0_1 a0_0 y273) = some (r1, r2, r3) := hy_ hy273 H
         have Ny273 := Aside0.mk hy273
         clear hy273
         have H' := Aside0.mk H
         clear H
         try go_wp2
         replace HO_256001 := Aside0.mk (Zp HO_256001.out)
         replace BK253 := Aside0.mk (Zf BK253.out)
         replace BK254 := Aside0.mk (Zf BK254.out)
         replace BK255 := Aside0.mk (Zf BK255.out)
         replace HB := Aside0.mk (Zj HB.out)
         refine start_ (n := 9) (S := fun w' => w'.cell? ⟨gb255, 0, none⟩ = some (.int .i64 a0_0) ∧ w'.cell? ⟨gb255, 1, none⟩ = some (u256001)) (ds := [8]) (m_ 9 0) (by kernel_rfl) rfl rfl ⟨(Za BK255.out 0).trans rfl, (Za BK255.out 1).trans rfl⟩ (fun hHeld => ?_); refine with_tabW spec_AddAttack.tab10 spec_AddAttack.bits10 (fun HT_ HW_ => ?_)
         generalize wc.drew = w48 at HO_256001 BK253 BK254 BK255 HB hHeld ⊢
         refine pu_ 0 62 (m_ 9 1) ?_
         refine pu_ 3 65 (m_ 9 9) ?_
         refine tk2_ 1 63 (m_ 9 11) hHeld ?_
         refine on_ 2 64 (m_ 9 15) (fun K hK => ?_)
         refine Kd.R_lit_step (Kd.int .i64) _ 3 ?hg (N := 64) ?hd (xs := ([] : List Int)) (inner := []) (ok := fun _ => True) (okp := fun _ => True) ?hr ?hp (fun _ hk => hk) trivial (Below.refl _ _) (Nat.le_refl _) (by simp) ?_; (case hd => rfl); (case hg => rfl); (case hr => first | (go_simp; done) | (go_simp; rfl)); (case hp => exact (Reps.none _ _))
         intro v268 w49 ho50 hb hg_ hnew_
         clear hg_ hnew_
         (first | rw [← Ny267.out] at ho50 | (simp only [Int.reduceToNat] at ho50; rw [← Ny267.out] at ho50))
         replace HO_256001 := Aside0.mk (Kd.S_elder' (rS_ HO_256001.out) (Kd.R_base ho50) hb)
         have HO269 := Aside0.mk (Kd.R_lower ho50 (Zm hB_))
         replace BK253 := Aside0.mk (Zg (bq_ BK253.out) hb)
         replace BK254 := Aside0.mk (Zg (bq_ BK254.out) hb)
         replace BK255 := Aside0.mk (Zg (bq_ BK255.out) hb)
         replace HB := Aside0.mk (Zh hB_ hb)
         clear hb ho50
         refine hK.out _ _ ⟨(Za BK255.out 0).trans rfl, (Za BK255.out 1).trans rfl⟩ (fun hHeld => ?_)
         clear hK K
         refine no_ 64 ?_
         refine on_ 4 66 (m_ 9 31) (fun K hK => ?_)
         refine Kd.R_append_rows_step (Kd.int .i64) (w0 := w) w.heap.size (by rfl) (.tmp 64) (.tmp 65) 31 3 (.int .i64 0) 8 rfl Try.underlying31 info3 rfl (by decide) (by omega) v268 y267 (rd_L2 l0_1 x10_1) _ _ _ (fun _ => True) (fun _ => False) rfl rfl ?aO ?aR (fun _ _ h => h) (fun _ h => h.elim) ?aF ?aB ?aS ?aL ?_
         (case aR => exact cb_ HR257_0.out)
         (case aB => exact hB_)
         (case aF => exact (fun _ _ => trivial))
         (case aO => exact (rR_ HO269.out))
         (case aS => exact (Zm hB_))
         (case aL => have := LMc46.out; omega)
         intro v271 w51 ho hb hg hat
         rw [← Ny270.out] at ho
         have n0_ := Aside0.mk (Kd.S_after (ok := (fun _ => True)) (rS_ HO_256001.out) hg hat)
         have n1_ := Aside0.mk (ZT (bq_ BK253.out) hg (Kd.R_ne HO269.out BK253.out (by decide)))
         have n2_ := Aside0.mk (ZT (bq_ BK254.out) hg (Kd.R_ne HO269.out BK254.out (by decide)))
         have n3_ := Aside0.mk (ZT (bq_ BK255.out) hg (Kd.R_ne HO269.out BK255.out (by decide)))
         have n4_ := Aside0.mk (hb)
         have n5_ := Aside0.mk (ho)
         clear HO_256001
         clear BK253
         clear BK254
         clear BK255
         clear HB
         clear HO269
         have HO_256001 := n0_
         have BK253 := n1_
         have BK254 := n2_
         have BK255 := n3_
         have HB := n4_
         have HO272 := n5_
         clear n0_ n1_ n2_ n3_ n4_ n5_
         clear ho hb hg hat
         obtain ⟨Ao53, co53, eo53⟩ := Kd.R_slice HO272.out
         (first | subst eo53 | (injection eo53 with f1_ f2_ f3_; have f4_ := f1_.symm; have f5_ := f3_.symm; clear f1_ f2_ f3_; subst f4_; subst f5_))
         refine hK.out _ _ ⟨(Za BK255.out 0).trans rfl, (Za BK255.out 1).trans rfl⟩ (fun hHeld => ?_)
         clear hK K
         refine no_ 66 ?_
         refine on_ 5 67 (m_ 9 63) (fun K hK => ?_)
         refine value_ (w1 := ?_) (v := ?_) (by rfl) rfl ?_ ?_
         rotate_left 2
         ·go_simp
          constructor
          ·rfl
          rfl
         refine hK.out _ _ ⟨(Za (Zd BK255.out _) 0).trans rfl, (Za (Zd BK255.out _) 1).trans rfl⟩ (fun hHeld => ?_)
         clear hK K
         refine no_ 67 ?_
         refine on_ 6 68 (m_ 9 127) (fun K hK => ?_)
         refine Kd.S_append_step (Kd.slice 3 (Kd.int .i64)) (w0 := w) w.heap.size (by rfl) (.tmp 63) (.tmp 67) 22 31 (.slice none 0 0) 24 rfl Try.underlying22 info31 rfl (by decide) (by omega) u256001 x256001_33 y270 [.slice Ao53 y270.length co53] (fun _ => True) (fun k_ => some k_ = (.slice Ao53 y270.length co53 : Value).ownBlock) rfl rfl ?aP (fun k_ hk_ => ((Zw (ok' := fun k_ => ((fun _ => True)) k_ ∧ some k_ ≠ (u256001 : Value).ownBlock) (Kd.R_apart' (HO272.out) (Kd.S_typed HO_256001.out) (by decide)) (fun k_ hk => ⟨trivial, hk.2⟩))).1 k_ hk_.symm) ?aF ?aO ?aB ?aS ?aL ?_
         (case aP => exact Kd.M_row (Zw (Kd.R_tight rfl (Zw (ok' := fun k_ => ((fun _ => True)) k_ ∧ some k_ ≠ (u256001 : Value).ownBlock) (Kd.R_apart' (HO272.out) (Kd.S_typed HO_256001.out) (by decide)) (fun k_ hk => ⟨trivial, hk.2⟩))) (fun _ h_ => h_)))
         (case aB => exact hB_)
         (case aF => exact (fun _ _ => trivial))
         (case aO => exact (by (with_reducible repeat (first | apply Zs | apply Zr | apply Zp)); exact Zt HO_256001.out (fun k_ hk => ⟨trivial, fun e_ => hk.2 e_⟩)))
         (case aS => exact (Zm hB_))
         (case aL => have := LMc47.out; omega)
         intro v274 w52 ho hb hg hat
         rw [← Ny273.out] at ho
         have n0_ := Aside0.mk (ZT (bq_ BK253.out) hg (Kd.S_ne HO_256001.out BK253.out (by decide)))
         have n1_ := Aside0.mk (ZT (bq_ BK254.out) hg (Kd.S_ne HO_256001.out BK254.out (by decide)))
         have n2_ := Aside0.mk (ZT (bq_ BK255.out) hg (Kd.S_ne HO_256001.out BK255.out (by decide)))
         have n3_ := Aside0.mk (hb)
         have n4_ := Aside0.mk (ho)
         clear BK253
         clear BK254
         clear BK255
         clear HB
         clear HO_256001
         clear HO272
         have BK253 := n0_
         have BK254 := n1_
         have BK255 := n2_
         have HB := n3_
         have HO275 := n4_
         clear n0_ n1_ n2_ n3_ n4_
         clear ho hb hg hat
         obtain ⟨Ao54, co54, eo54⟩ := ZN HO275.out
         (first | subst eo54 | (injection eo54 with f1_ f2_ f3_; have f4_ := f1_.symm; have f5_ := f3_.symm; clear f1_ f2_ f3_; subst f4_; subst f5_))
         refine hK.out _ _ ⟨(Za BK255.out 0).trans rfl, (Za BK255.out 1).trans rfl⟩ (fun hHeld => ?_)
         clear hK K
         refine no_ 68 ?_
         refine pu_ 7 69 (m_ 9 255) ?_
         refine last_ (i := 8) (N := none) (m_ 9 511) rfl rfl (one_of HT_.out (by kernel_rfl)) (by decide) (fun K hK => ?_)
         have hs55 : w52.cell? ⟨gb255, 1, none⟩ = some (u256001) := (Za BK255.out 1).trans rfl
         have hfs55 := Zb BK255.out 1
         have hns55_0 := NB253_255.out
         have hns55_1 := NB254_255.out
         have hms55_0 := NB255_253.out
         have hms55_1 := NB255_254.out
         refine skip_ (w1 := ?_) (by rfl) rfl ?_ ?_
         rotate_left
         ·go_simp
          rfl
         refine hK.out _ _ ?_
         clear hK K
         refine done_ (done_of HT_.out (by kernel_rfl)) ?_
         try go_wp2
         go_roundg kj33
         case measure => have := HK1.out; have := HJ11.out; have := HJ24.out; have := HJ33.out; omega
         case rel => exact ⟨(x9_33), (wrap64 (x10_1 + 1)), (y273), (.slice Ao54 y273.length co54), sm_, sm_, H', ⟨by have := HK1.out; have := HJ11.out; have := HJ24.out; have := HJ33.out; omega⟩, ⟨by (with_reducible repeat (first | apply Zs | apply Zr | apply Zp)); exact Zt (Zq (p := ⟨gb255, 1, none⟩) (Zv HO275.out BK255.out (by decide)) (fun _ hk => hk.2) (.slice Ao54 y273.length co54)) (fun _ hk => trivial)⟩, ⟨by (with_reducible repeat (first | refine Ze ?_ _ | refine Zf ?_ | refine Zd ?_ _)); refine ZG ?_ NB253_255.out _; (with_reducible repeat (first | refine Ze ?_ _ | refine Zf ?_ | refine Zd ?_ _)); exact BK253.out⟩, ⟨by (with_reducible repeat (first | refine Ze ?_ _ | refine Zf ?_ | refine Zd ?_ _)); refine ZG ?_ NB254_255.out _; (with_reducible repeat (first | refine Ze ?_ _ | refine Zf ?_ | refine Zd ?_ _)); exact BK254.out⟩, ⟨by (with_reducible repeat (first | refine Ze ?_ _ | refine Zf ?_ | refine Zd ?_ _)); refine ZB (cs := #[.int .i64 a0_0, u256001]) ?_ 1 _ rfl; (with_reducible repeat (first | refine Ze ?_ _ | refine Zf ?_ | refine Zd ?_ _)); exact BK255.out⟩, ⟨hB_⟩⟩

end Go.Proofs.Ytdlobolnajcfnaa.PFnDisputes
