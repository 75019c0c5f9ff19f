-- Written by a program of this session (hooks of mine on the print): Lean checks it.
import Derived.Test.YtdlobolnajcfnaaPFnDisputesx0
import Derived.Test.YtdlobolnajcfnaaPFnDisputesx6
import Derived.Test.YtdlobolnajcfnaaPFnDisputesx7
import Derived.Test.YtdlobolnajcfnaaPFnDisputesx10
namespace Go.Proofs.Ytdlobolnajcfnaa.PFnDisputes
open Go.RowKit Go.Proofs.YtdlobolnajcfnaaW.PrintWords Go.Proofs.YtdlobolnajcfnaaW.PrintLast Go.Proofs.YtdlobolnajcfnaaW.PrintMore
attribute [local go_sem] max2_int min2_int max_two min_two max_three min_three max_four min_four   -- for this text's walks alone
set_option linter.unusedVariables false
set_option linter.unusedSimpArgs false

/-! ### spec_WithClaim: function 43 -/
def spec_WithClaim.l0 : Nat → List Int → Int → Int → List (List Int) → Int → List (List Int) → Option (Int × (List (List Int)) × Bool)
 | 0, _, _, _, _, _, _ => none
 | k + 1, x1, x7, x449000, x449001, x455000, x455001 => if x7 < (x1.length : Int) then (if 0 ≤ x7 then ((spec_l1In.f (rd x1 x7) 0 (wrap64 (x449000 - 1))).bind fun t457 => (if t457 = true then (if x455001.length < 5864062014805 then (spec_WithClaim.l0 k x1 (wrap64 (x7 + 1)) x449000 x449001 x455000 (x455001 ++ [(([x449000, rd x1 x7] : List Int))])) else (none)) else ((spec_l4Copy.f k x449000 x449001).bind fun bt465 => (some (bt465.1, bt465.2, false))))) else (none)) else ((spec_IsGraph.f k x449000 x449001).bind fun t469 => (if t469 = true then ((spec_IsGraph.f k x455000 x455001).bind fun t470 => (if t470 = true then (some (x455000, x455001, true)) else ((spec_l4Copy.f k x449000 x449001).bind fun bt471 => (some (bt471.1, bt471.2, false))))) else ((spec_l4Copy.f k x449000 x449001).bind fun bt475 => (some (bt475.1, bt475.2, false)))))
def spec_WithClaim.f (k : Nat) (a0_0 : Int) (l0_1 : List (List Int)) (l1 : List Int) : Option (Int × (List (List Int)) × Bool) := (spec_l4Copy.f k a0_0 l0_1).bind fun bt450 => ((spec_Min.f 100 a0_0).bind fun t455 => (spec_WithClaim.l0 k l1 0 a0_0 l0_1 (wrap64 (t455 + 1)) bt450.2))
theorem spec_WithClaim.mono_l : ∀ k, (∀ y0 y1 y2 y3 y4 y5, LeO (spec_WithClaim.l0 k y0 y1 y2 y3 y4 y5) (spec_WithClaim.l0 (k + 1) y0 y1 y2 y3 y4 y5))
 | 0 => fun _ _ _ _ _ _ r h => by simp [spec_WithClaim.l0] at h
 | k + 1 => by
  have ih0 := spec_WithClaim.mono_l k
  ·intro y0 y1 y2 y3 y4 y5
   unfold spec_WithClaim.l0
   repeat' with_reducible first | apply ih0 | apply spec_IsGraph.mono | apply spec_l4Copy.mono | apply ZJ | apply Zn | refine Zu ?_ ?_ | refine Zo ?_ (fun _ => ?_)
theorem spec_WithClaim.mono : ∀ a0 a1 a2 k, LeO (spec_WithClaim.f k a0 a1 a2) (spec_WithClaim.f (k + 1) a0 a1 a2) := by
 intro a0 a1 a2 k
 have ih0 := spec_WithClaim.mono_l k
 unfold spec_WithClaim.f
 repeat' with_reducible first | apply ih0 | apply spec_IsGraph.mono | apply spec_l4Copy.mono | apply ZJ | apply Zn | refine Zu ?_ ?_ | refine Zo ?_ (fun _ => ?_)
def spec_WithClaim.T6 : Bool × List (List Nat × List Nat) := (true, [([], []), ([], []), ([0, 1], [0, 1]), ([2], [2]), ([], []), ([4], [4]), ([5], [5]), ([3, 6], [3, 6]), ([7], [7])])
def spec_WithClaim.B6 : List Nat := [0, 0, 3, 7, 0, 16, 48, 127, 255]
theorem spec_WithClaim.tab6 : rtab .any (opsOf Try.f43 6) = spec_WithClaim.T6 := by kernel_rfl
theorem spec_WithClaim.bits6 : waitsOk spec_WithClaim.T6.2 spec_WithClaim.B6 = true := by kernel_rfl
def spec_WithClaim.T8 : Bool × List (List Nat × List Nat) := (true, [([], []), ([0], [0]), ([], []), ([2], [2]), ([], []), ([], []), ([4, 5], [4, 5]), ([6], [6]), ([3, 7], [3, 7]), ([8], [8]), ([1, 9], [1, 9]), ([0, 1, 2, 3, 4, 5, 6, 7, 8, 9, 10], []), ([11, 10, 10, 0, 1, 2, 3, 4, 5, 6, 7, 8, 9, 10], [10, 11])])
def spec_WithClaim.B8 : List Nat := [0, 1, 0, 4, 0, 0, 48, 112, 252, 508, 1023, 2047, 4095]
theorem spec_WithClaim.tab8 : rtab .any (opsOf Try.f43 8) = spec_WithClaim.T8 := by kernel_rfl
theorem spec_WithClaim.bits8 : waitsOk spec_WithClaim.T8.2 spec_WithClaim.B8 = true := by kernel_rfl
set_option maxHeartbeats 8000000 in
set_option maxRecDepth 100000 in
theorem spec_WithClaim.calls (k : Nat) (a0_0 : Int) (A0_1 : Option Addr) (c0_1 : Nat) (l0_1 : List (List Int)) (A1 : Option Addr) (c1 : Nat) (l1 : List Int) (r1 : Int) (r2 : List (List Int)) (r3 : Bool) (w : World) (hr0_1 : Kd.C (Kd.slice 3 (Kd.int .i64)) w A0_1 l0_1.length l0_1) (hc0_1 : l0_1.length ≤ c0_1) (hr1 : Kd.C (Kd.int .i64) w A1 l1.length l1) (hc1 : l1.length ≤ c1) (h : spec_WithClaim.f k a0_0 l0_1 l1 = some (r1, r2, r3)) :
  Calls Try.prog 43 #[.agg #[.int .i64 a0_0, .slice A0_1 l0_1.length c0_1], .slice A1 l1.length c1] w fun e w' => ∃ v1_ : Value, e = .returned (.tuple #[.agg #[.int .i64 r1, v1_], .bool r3]) ∧ Kd.S (Kd.slice 3 (Kd.int .i64)) 31 w' w.heap.size (fun _ => True) v1_ r2 ∧ Below w.heap.size w w' := by
 have hu27 := Try.underlying27
 have HR0_1 := Aside0.mk hr0_1
 have HC0_1 := Aside0.mk hc0_1
 clear hr0_1 hc0_1
 have HR1 := Aside0.mk hr1
 have HC1 := Aside0.mk hc1
 clear hr1 hc1
 have HB := Aside0.mk (Below.refl w.heap.size w)
 have H := h
 unfold spec_WithClaim.f at H
 clear h
 obtain ⟨⟨t450, t451⟩, A3, H⟩ := bd_ H
 try dsimp only at H
 obtain ⟨t455, A4, H⟩ := bd_ H
 try dsimp only at H
 have H' := Aside0.mk H
 clear H
 go_enter Try.func43, Try.ntmps43
 go_wp2_with (first | ((with_reducible refine ZA (N := 2) rfl ?_); refine ZC ?hg (N := 2) ?hd (cs := #[.int .i64 a0_0, .slice A0_1 l0_1.length c0_1]) (t := 27) ?hr ?_; (case hd => rfl); (case hg => rfl); (case hr => first | (go_simp; done) | (go_simp; rfl)); intro gb448 hg w5 hbox hb; have BK448 := Aside0.mk (hbox); have GW448 := Aside0.mk ((hz_ hg : w.heap.size ≤ gb448)); have GE448 := Aside0.mk ((hz_ hg : w.heap.size ≤ gb448)); replace HB := Aside0.mk (Zh hB_ hb); clear hb hbox hg) | ((with_reducible refine ZA (N := 4) rfl ?_); refine ZC ?hg (N := 4) ?hd (cs := #[.int .i64 0, .slice none 0 0]) (t := 27) ?hr ?_; (case hd => rfl); (case hg => rfl); (case hr => first | (go_simp; done) | (go_simp; rfl)); intro gb449 hg w6 hbox hb; have BK449 := Aside0.mk (hbox); have GW449 := Aside0.mk ((hz_ hg : w.heap.size ≤ gb449)); have GE449 := Aside0.mk ((hz_ hg : w.heap.size ≤ gb449)); replace HB := Aside0.mk (Zh hB_ hb); have NB448_449 := Aside0.mk ((by rw [hg]; exact Nat.ne_of_lt (ZS (bq_ BK448.out)) : gb448 ≠ gb449)); have NB449_448 := Aside0.mk ((by rw [hg]; exact Nat.ne_of_gt (ZS (bq_ BK448.out)) : gb449 ≠ gb448)); replace BK448 := Aside0.mk (Zg (bq_ BK448.out) hb); clear hb hbox hg; have hnb7 := NB448_449.out; have hnc7 := NB449_448.out; obtain ⟨hcz8_0, hcz8_1, hfz8_0, hfz8_1⟩ := c2_ BK448.out) | ((with_reducible refine Zl (f := 92) rfl ?_); refine ZI (some 9) rfl rfl Try.func92 (by kernel_rfl) rfl #[.agg #[.int .i64 a0_0, .slice A0_1 l0_1.length c0_1]] rfl ar_ ?_; (with_reducible refine (spec_l4Copy.calls k a0_0 _ _ l0_1 t450 t451 _ ?side1 ?side2 A3.out).mono ?_); (case side1 => exact cb_ HR0_1.out); (case side2 => exact HC0_1.out); rintro e w9 ⟨v452, rfl, ho0, hb⟩; refine ⟨_, rfl, ?_⟩; have HO453 := Aside0.mk (Kd.S_lower ho0 (Zm hB_)); replace BK448 := Aside0.mk (Zg (bq_ BK448.out) hb); replace BK449 := Aside0.mk (Zg (bq_ BK449.out) hb); replace HB := Aside0.mk (Zh hB_ hb); (try clear hb); (try clear ho0)) | ((with_reducible refine ZA (N := 6) rfl ?_); refine ZC ?hg (N := 6) ?hd (cs := #[.int .i64 0, .slice none 0 0]) (t := 27) ?hr ?_; (case hd => rfl); (case hg => rfl); (case hr => first | (go_simp; done) | (go_simp; rfl)); intro gb454 hg w10 hbox hb; replace HO453 := Aside0.mk (Zz (rS_ HO453.out) hb); have BK454 := Aside0.mk (hbox); have GW454 := Aside0.mk ((hz_ hg : w.heap.size ≤ gb454)); have GE454 := Aside0.mk ((hz_ hg : w.heap.size ≤ gb454)); replace HB := Aside0.mk (Zh hB_ hb); have NB448_454 := Aside0.mk ((by rw [hg]; exact Nat.ne_of_lt (ZS (bq_ BK448.out)) : gb448 ≠ gb454)); have NB454_448 := Aside0.mk ((by rw [hg]; exact Nat.ne_of_gt (ZS (bq_ BK448.out)) : gb454 ≠ gb448)); replace BK448 := Aside0.mk (Zg (bq_ BK448.out) hb); have NB449_454 := Aside0.mk ((by rw [hg]; exact Nat.ne_of_lt (ZS (bq_ BK449.out)) : gb449 ≠ gb454)); have NB454_449 := Aside0.mk ((by rw [hg]; exact Nat.ne_of_gt (ZS (bq_ BK449.out)) : gb454 ≠ gb449)); replace BK449 := Aside0.mk (Zg (bq_ BK449.out) hb); clear hb hbox hg; have hnb11 := NB454_448.out; have hnc11 := NB448_454.out; have hnb12 := NB454_449.out; have hnc12 := NB449_454.out; obtain ⟨hcz13_0, hcz13_1, hfz13_0, hfz13_1⟩ := c2_ BK454.out; obtain ⟨Ao14, co14, eo14⟩ := ZN HO453.out; subst eo14; obtain ⟨hcz15_0, hcz15_1, hfz15_0, hfz15_1⟩ := c2_ BK448.out) | ((with_reducible refine Zl (f := 93) rfl ?_); refine ZI (some 12) rfl rfl Try.func93 (by kernel_rfl) rfl #[.int .i64 100, .int .i64 a0_0] rfl ar_ ?_; (with_reducible refine (spec_Min.calls 100 a0_0 t455 _ A4.out).mono ?_); rintro e w' ⟨rfl, ⟨nd, rfl⟩⟩; refine ⟨_, rfl, ?_⟩))
 go_loopg [7] k (fun kq v7 w' => ∃ (x7_1 : Int) (x450000_1 : Int) (x455001_1 : List (List Int)) (u455001 : Value), v7 = .int .i64 x7_1 ∧ Aside0 (spec_WithClaim.l0 kq l1 x7_1 a0_0 l0_1 (wrap64 (t455 + 1)) x455001_1 = some (r1, r2, r3)) ∧ Aside0 (kq ≤ k) ∧ Aside0 (Kd.S (Kd.slice 3 (Kd.int .i64)) 31 w' w.heap.size (fun _ => True) u455001 x455001_1) ∧ Aside0 (w'.heap[gb448]? = some (.cells #[.int .i64 a0_0, (.slice A0_1 l0_1.length c0_1)] 27 (0, 0))) ∧ Aside0 (w'.heap[gb449]? = some (.cells #[.int .i64 x450000_1, (.slice none 0 0)] 27 (0, 0))) ∧ Aside0 (w'.heap[gb454]? = some (.cells #[.int .i64 (wrap64 (t455 + 1)), u455001] 27 (0, 0))) ∧ Aside0 (Below w.heap.size w w'))
 case atStart => exact ⟨(0), (0), (t451), (.slice Ao14 t451.length co14), sm_, H', ⟨Nat.le_refl _⟩, ⟨by (with_reducible repeat (first | apply Zs | apply Zr | apply Zp)); exact Zt (Zq (p := ⟨gb454, 0, none⟩) (Zq (p := ⟨gb454, 1, none⟩) (Zq (p := ⟨gb454, 0, none⟩) (Zv HO453.out BK454.out (by decide)) (fun _ hk => hk.2) (.int .i64 t450)) (fun _ hk => hk.2) (.slice Ao14 t451.length co14)) (fun _ hk => hk.2) (.int .i64 (wrap64 (t455 + 1)))) (fun _ hk => trivial)⟩, ⟨by (with_reducible repeat (first | refine Ze ?_ _ | refine Zf ?_ | refine Zd ?_ _)); refine ZG ?_ NB448_454.out _; (with_reducible repeat (first | refine Ze ?_ _ | refine Zf ?_ | refine Zd ?_ _)); refine ZG ?_ NB448_454.out _; (with_reducible repeat (first | refine Ze ?_ _ | refine Zf ?_ | refine Zd ?_ _)); refine ZG ?_ NB448_454.out _; (with_reducible repeat (first | refine Ze ?_ _ | refine Zf ?_ | refine Zd ?_ _)); exact BK448.out⟩, ⟨by (with_reducible repeat (first | refine Ze ?_ _ | refine Zf ?_ | refine Zd ?_ _)); refine ZG ?_ NB449_454.out _; (with_reducible repeat (first | refine Ze ?_ _ | refine Zf ?_ | refine Zd ?_ _)); refine ZG ?_ NB449_454.out _; (with_reducible repeat (first | refine Ze ?_ _ | refine Zf ?_ | refine Zd ?_ _)); refine ZG ?_ NB449_454.out _; (with_reducible repeat (first | refine Ze ?_ _ | refine Zf ?_ | refine Zd ?_ _)); exact BK449.out⟩, ⟨by (with_reducible repeat (first | refine Ze ?_ _ | refine Zf ?_ | refine Zd ?_ _)); refine ZB (cs := #[.int .i64 t450, .slice Ao14 t451.length co14]) ?_ 0 _ rfl; (with_reducible repeat (first | refine Ze ?_ _ | refine Zf ?_ | refine Zd ?_ _)); refine ZB (cs := #[.int .i64 t450, .slice none 0 0]) ?_ 1 _ rfl; (with_reducible repeat (first | refine Ze ?_ _ | refine Zf ?_ | refine Zd ?_ _)); refine ZB (cs := #[.int .i64 0, .slice none 0 0]) ?_ 0 _ rfl; (with_reducible repeat (first | refine Ze ?_ _ | refine Zf ?_ | refine Zd ?_ _)); exact BK454.out⟩, ⟨hB_⟩⟩
 case round =>
  clear H'
  try clear c1
  try clear p2
  try clear c4
  try clear p6
  try clear c7
  try clear c9
  try clear c11
  try clear c12
  try clear hcz13_0
  try clear hcz13_1
  try clear hcz15_0
  try clear hcz15_1
  try clear hcz8_0
  try clear hcz8_1
  try clear hfz13_0
  try clear hfz13_1
  try clear hfz15_0
  try clear hfz15_1
  try clear hfz8_0
  try clear hfz8_1
  obtain ⟨x7_1, x450000_1, x455001_1, u455001, rfl, HA, HK1, HO_455001, BK448, BK449, BK454, HB⟩ := hrel
  cases gk with
  | zero => exact absurd HA.out (by simp [spec_WithClaim.l0])
  | succ k1 =>
   have H := HA.out
   clear HA
   simp only [spec_WithClaim.l0] at H
   by_cases c16 : x7_1 < (l1.length : Int)
   rotate_left
   ·rw [if_neg c16] at H
    have c16b0 : decide (x7_1 < (l1.length : Int)) = false := decide_eq_false c16
    clear c16
    obtain ⟨t469, A37, H⟩ := bd_ H
    try dsimp only at H
    by_cases c38 : t469 = true
    rotate_left
    ·replace c38 := Bool.eq_false_iff.mpr c38
     subst c38
     have H1 : ((spec_l4Copy.f k1 a0_0 l0_1).bind fun bt475 => (some (bt475.1, bt475.2, false))) = some (r1, r2, r3) := by rw [if_neg (show ¬ (false = true) by decide)] at H; exact H
     clear H
     have H := H1
     clear H1
     obtain ⟨⟨t475, t476⟩, A64, H⟩ := bd_ H
     try dsimp only at H
     simp only [Option.some.injEq, Prod.mk.injEq] at H
     obtain ⟨rfl, rfl, rfl⟩ := H
     have hnb65 := NB448_449.out
     have hnc65 := NB449_448.out
     have hnb66 := NB448_454.out
     have hnc66 := NB454_448.out
     obtain ⟨hcz67_0, hcz67_1, hfz67_0, hfz67_1⟩ := c2_ BK448.out
     (try clear HO_455001)
     (try clear BK454)
     go_wp2_with (first | ((with_reducible refine Zl (f := 57) rfl ?_); refine ZI (some 45) rfl rfl Try.func57 (by kernel_rfl) rfl #[.agg #[.int .i64 a0_0, .slice A0_1 l0_1.length c0_1]] rfl ar_ ?_; (with_reducible refine (spec_IsGraph.calls k1 a0_0 _ _ l0_1 false _ ?side1 ?side2 A37.out).mono ?_); (case side1 => exact cb_ HR0_1.out); (case side2 => exact HC0_1.out); rintro e w68 ⟨rfl, hb⟩; refine ⟨_, rfl, ?_⟩; replace BK448 := Aside0.mk (Zg (bq_ BK448.out) hb); replace BK449 := Aside0.mk (Zg (bq_ BK449.out) hb); replace HB := Aside0.mk (Zh hB_ hb); (try clear hb); obtain ⟨hcz69_0, hcz69_1, hfz69_0, hfz69_1⟩ := c2_ BK448.out; (try clear BK448)) | ((with_reducible refine Zl (f := 92) rfl ?_); refine ZI (some 53) rfl rfl Try.func92 (by kernel_rfl) rfl #[.agg #[.int .i64 a0_0, .slice A0_1 l0_1.length c0_1]] rfl ar_ ?_; (with_reducible refine (spec_l4Copy.calls k1 a0_0 _ _ l0_1 t475 t476 _ ?side1 ?side2 A64.out).mono ?_); (case side1 => exact cb_ HR0_1.out); (case side2 => exact HC0_1.out); rintro e w70 ⟨v477, rfl, ho0, hb⟩; refine ⟨_, rfl, ?_⟩; have HO478 := Aside0.mk (Kd.S_lower ho0 (Zm hB_)); replace BK449 := Aside0.mk (Zg (bq_ BK449.out) hb); replace HB := Aside0.mk (Zh hB_ hb); (try clear hb); (try clear ho0); obtain ⟨hcz71_0, hcz71_1, hfz71_0, hfz71_1⟩ := c2_ BK449.out; obtain ⟨Ao72, co72, eo72⟩ := ZN HO478.out; subst eo72))
     refine bodyPost_ret (results_ct rfl _ _ gb449 27 #[.int .i64 t475, .slice Ao72 t476.length co72] (0, 0) _ rfl (by (with_reducible repeat (first | refine Ze ?_ _ | refine Zf ?_ | refine Zd ?_ _)); refine ZB (cs := #[.int .i64 t475, .slice none 0 0]) ?_ 1 _ rfl; (with_reducible repeat (first | refine Ze ?_ _ | refine Zf ?_ | refine Zd ?_ _)); refine ZB (cs := #[.int .i64 x450000_1, .slice none 0 0]) ?_ 0 _ rfl; (with_reducible repeat (first | refine Ze ?_ _ | refine Zf ?_ | refine Zd ?_ _)); exact BK449.out) Try.underlying27 rfl (by kernel_rfl)) rfl ?_
     exact ⟨_, er_, by (with_reducible repeat (first | apply Zs | apply Zr | apply Zp)); exact Zt (Zq (p := ⟨gb449, 1, none⟩) (Zq (p := ⟨gb449, 0, none⟩) (Zv HO478.out BK449.out (by decide)) (fun _ hk => hk.2) (.int .i64 t475)) (fun _ hk => hk.2) (.slice Ao72 t476.length co72)) (fun _ hk => trivial), hB_⟩
    subst c38
    have H1 : ((spec_IsGraph.f k1 (wrap64 (t455 + 1)) x455001_1).bind fun t470 => (if t470 = true then (some ((wrap64 (t455 + 1)), x455001_1, true)) else ((spec_l4Copy.f k1 a0_0 l0_1).bind fun bt471 => (some (bt471.1, bt471.2, false))))) = some (r1, r2, r3) := by rw [if_pos rfl] at H; exact H
    clear H
    have H := H1
    clear H1
    obtain ⟨t470, A39, H⟩ := bd_ H
    try dsimp only at H
    by_cases c40 : t470 = true
    ·subst c40
     have H1 : (some ((wrap64 (t455 + 1)), x455001_1, true)) = some (r1, r2, r3) := by rw [if_pos rfl] at H; exact H
     clear H
     have H := H1
     clear H1
     simp only [Option.some.injEq, Prod.mk.injEq] at H
     obtain ⟨rfl, rfl, rfl⟩ := H
     have hnb41 := NB448_449.out
     have hnc41 := NB449_448.out
     have hnb42 := NB448_454.out
     have hnc42 := NB454_448.out
     obtain ⟨hcz43_0, hcz43_1, hfz43_0, hfz43_1⟩ := c2_ BK448.out
     (try clear BK448)
     go_wp2_with (first | ((with_reducible refine Zl (f := 57) rfl ?_); refine ZI (some 45) rfl rfl Try.func57 (by kernel_rfl) rfl #[.agg #[.int .i64 a0_0, .slice A0_1 l0_1.length c0_1]] rfl ar_ ?_; (with_reducible refine (spec_IsGraph.calls k1 a0_0 _ _ l0_1 true _ ?side1 ?side2 A37.out).mono ?_); (case side1 => exact cb_ HR0_1.out); (case side2 => exact HC0_1.out); rintro e w44 ⟨rfl, hb⟩; refine ⟨_, rfl, ?_⟩; replace HO_455001 := Aside0.mk (Zz (rS_ HO_455001.out) hb); replace BK449 := Aside0.mk (Zg (bq_ BK449.out) hb); replace BK454 := Aside0.mk (Zg (bq_ BK454.out) hb); replace HB := Aside0.mk (Zh hB_ hb); (try clear hb); have hnb45 := NB454_449.out; have hnc45 := NB449_454.out; obtain ⟨hcz46_0, hcz46_1, hfz46_0, hfz46_1⟩ := c2_ BK454.out; obtain ⟨Ao47, co47, eo47⟩ := ZN HO_455001.out; subst eo47) | (go_at_call 57; refine calls_of_args (args' := #[.agg #[.int .i64 (wrap64 (t455 + 1)), .slice Ao47 x455001_1.length co47]]) ?harg ?_; (case harg => first | rfl | (simp only [i64_w, i32_w]; rfl) | (simp only [i64_w, i32_w]; done)); (with_reducible refine (spec_IsGraph.calls k1 (wrap64 (t455 + 1)) _ _ x455001_1 true _ ?side1 ?side2 A39.out).mono ?_); (case side1 => exact sA_ (ZK HO_455001.out).2.2); (case side2 => exact (ZK HO_455001.out).2.1); rintro e w48 ⟨rfl, hb⟩; replace HO_455001 := Aside0.mk (Zz (rS_ HO_455001.out) hb); replace BK449 := Aside0.mk (Zg (bq_ BK449.out) hb); replace BK454 := Aside0.mk (Zg (bq_ BK454.out) hb); replace HB := Aside0.mk (Zh hB_ hb); (try clear hb); obtain ⟨hcz49_0, hcz49_1, hfz49_0, hfz49_1⟩ := c2_ BK454.out; obtain ⟨hcz50_0, hcz50_1, hfz50_0, hfz50_1⟩ := c2_ BK449.out))
     refine bodyPost_ret (results_ct rfl _ _ gb449 27 #[.int .i64 (wrap64 (t455 + 1)), .slice Ao47 x455001_1.length co47] (0, 0) _ rfl (by (with_reducible repeat (first | refine Ze ?_ _ | refine Zf ?_ | refine Zd ?_ _)); refine ZB (cs := #[.int .i64 (wrap64 (t455 + 1)), .slice none 0 0]) ?_ 1 _ rfl; (with_reducible repeat (first | refine Ze ?_ _ | refine Zf ?_ | refine Zd ?_ _)); refine ZB (cs := #[.int .i64 x450000_1, .slice none 0 0]) ?_ 0 _ rfl; (with_reducible repeat (first | refine Ze ?_ _ | refine Zf ?_ | refine Zd ?_ _)); exact BK449.out) Try.underlying27 rfl (by kernel_rfl)) rfl ?_
     exact ⟨_, er_, by (with_reducible repeat (first | apply Zs | apply Zr | apply Zp)); exact Zt (Zq (p := ⟨gb449, 1, none⟩) (Zq (p := ⟨gb449, 0, none⟩) (Zv HO_455001.out BK449.out (by decide)) (fun _ hk => hk.2) (.int .i64 (wrap64 (t455 + 1)))) (fun _ hk => hk.2) (.slice Ao47 x455001_1.length co47)) (fun _ hk => trivial), hB_⟩
    replace c40 := Bool.eq_false_iff.mpr c40
    subst c40
    have H1 : ((spec_l4Copy.f k1 a0_0 l0_1).bind fun bt471 => (some (bt471.1, bt471.2, false))) = some (r1, r2, r3) := by rw [if_neg (show ¬ (false = true) by decide)] at H; exact H
    clear H
    have H := H1
    clear H1
    obtain ⟨⟨t471, t472⟩, A51, H⟩ := bd_ H
    try dsimp only at H
    simp only [Option.some.injEq, Prod.mk.injEq] at H
    obtain ⟨rfl, rfl, rfl⟩ := H
    have hnb52 := NB448_449.out
    have hnc52 := NB449_448.out
    have hnb53 := NB448_454.out
    have hnc53 := NB454_448.out
    obtain ⟨hcz54_0, hcz54_1, hfz54_0, hfz54_1⟩ := c2_ BK448.out
    go_wp2_with (first | ((with_reducible refine Zl (f := 57) rfl ?_); refine ZI (some 45) rfl rfl Try.func57 (by kernel_rfl) rfl #[.agg #[.int .i64 a0_0, .slice A0_1 l0_1.length c0_1]] rfl ar_ ?_; (with_reducible refine (spec_IsGraph.calls k1 a0_0 _ _ l0_1 true _ ?side1 ?side2 A37.out).mono ?_); (case side1 => exact cb_ HR0_1.out); (case side2 => exact HC0_1.out); rintro e w55 ⟨rfl, hb⟩; refine ⟨_, rfl, ?_⟩; replace HO_455001 := Aside0.mk (Zz (rS_ HO_455001.out) hb); replace BK448 := Aside0.mk (Zg (bq_ BK448.out) hb); replace BK449 := Aside0.mk (Zg (bq_ BK449.out) hb); replace BK454 := Aside0.mk (Zg (bq_ BK454.out) hb); replace HB := Aside0.mk (Zh hB_ hb); (try clear hb); have hnb56 := NB454_449.out; have hnc56 := NB449_454.out; obtain ⟨hcz57_0, hcz57_1, hfz57_0, hfz57_1⟩ := c2_ BK454.out; (try clear BK454); obtain ⟨Ao58, co58, eo58⟩ := ZN HO_455001.out; subst eo58) | (go_at_call 57; refine calls_of_args (args' := #[.agg #[.int .i64 (wrap64 (t455 + 1)), .slice Ao58 x455001_1.length co58]]) ?harg ?_; (case harg => first | rfl | (simp only [i64_w, i32_w]; rfl) | (simp only [i64_w, i32_w]; done)); (with_reducible refine (spec_IsGraph.calls k1 (wrap64 (t455 + 1)) _ _ x455001_1 false _ ?side1 ?side2 A39.out).mono ?_); (case side1 => exact sA_ (ZK HO_455001.out).2.2); (case side2 => exact (ZK HO_455001.out).2.1); rintro e w59 ⟨rfl, hb⟩; replace HO_455001 := Aside0.mk (Zz (rS_ HO_455001.out) hb); replace BK448 := Aside0.mk (Zg (bq_ BK448.out) hb); replace BK449 := Aside0.mk (Zg (bq_ BK449.out) hb); replace HB := Aside0.mk (Zh hB_ hb); (try clear hb); obtain ⟨hcz60_0, hcz60_1, hfz60_0, hfz60_1⟩ := c2_ BK448.out; (try clear HO_455001); (try clear BK448)) | ((with_reducible refine Zl (f := 92) rfl ?_); refine ZI (some 53) rfl rfl Try.func92 (by kernel_rfl) rfl #[.agg #[.int .i64 a0_0, .slice A0_1 l0_1.length c0_1]] rfl ar_ ?_; (with_reducible refine (spec_l4Copy.calls k1 a0_0 _ _ l0_1 t471 t472 _ ?side1 ?side2 A51.out).mono ?_); (case side1 => exact cb_ HR0_1.out); (case side2 => exact HC0_1.out); rintro e w61 ⟨v473, rfl, ho0, hb⟩; refine ⟨_, rfl, ?_⟩; have HO474 := Aside0.mk (Kd.S_lower ho0 (Zm hB_)); replace BK449 := Aside0.mk (Zg (bq_ BK449.out) hb); replace HB := Aside0.mk (Zh hB_ hb); (try clear hb); (try clear ho0); obtain ⟨hcz62_0, hcz62_1, hfz62_0, hfz62_1⟩ := c2_ BK449.out; obtain ⟨Ao63, co63, eo63⟩ := ZN HO474.out; subst eo63))
    refine bodyPost_ret (results_ct rfl _ _ gb449 27 #[.int .i64 t471, .slice Ao63 t472.length co63] (0, 0) _ rfl (by (with_reducible repeat (first | refine Ze ?_ _ | refine Zf ?_ | refine Zd ?_ _)); refine ZB (cs := #[.int .i64 t471, .slice none 0 0]) ?_ 1 _ rfl; (with_reducible repeat (first | refine Ze ?_ _ | refine Zf ?_ | refine Zd ?_ _)); refine ZB (cs := #[.int .i64 x450000_1, .slice none 0 0]) ?_ 0 _ rfl; (with_reducible repeat (first | refine Ze ?_ _ | refine Zf ?_ | refine Zd ?_ _)); exact BK449.out) Try.underlying27 rfl (by kernel_rfl)) rfl ?_
    exact ⟨_, er_, by (with_reducible repeat (first | apply Zs | apply Zr | apply Zp)); exact Zt (Zq (p := ⟨gb449, 1, none⟩) (Zq (p := ⟨gb449, 0, none⟩) (Zv HO474.out BK449.out (by decide)) (fun _ hk => hk.2) (.int .i64 t471)) (fun _ hk => hk.2) (.slice Ao63 t472.length co63)) (fun _ hk => trivial), hB_⟩
   rw [if_pos c16] at H
   have c16b0 : decide (x7_1 < (l1.length : Int)) = true := decide_eq_true c16
   clear c16
   by_cases c17 : 0 ≤ x7_1
   rotate_left
   ·rw [if_neg c17] at H
    exact absurd H (by simp)
   rw [if_pos c17] at H
   have c17b0 : decide (0 ≤ x7_1) = true := decide_eq_true c17
   clear c17
   obtain ⟨t457, A18, H⟩ := bd_ H
   try dsimp only at H
   by_cases c19 : t457 = true
   rotate_left
   ·replace c19 := Bool.eq_false_iff.mpr c19
    subst c19
    have H1 : ((spec_l4Copy.f k1 a0_0 l0_1).bind fun bt465 => (some (bt465.1, bt465.2, false))) = some (r1, r2, r3) := by rw [if_neg (show ¬ (false = true) by decide)] at H; exact H
    clear H
    have H := H1
    clear H1
    obtain ⟨⟨t465, t466⟩, A29, H⟩ := bd_ H
    try dsimp only at H
    simp only [Option.some.injEq, Prod.mk.injEq] at H
    obtain ⟨rfl, rfl, rfl⟩ := H
    (try clear HO_455001)
    try go_wp2
    replace BK448 := Aside0.mk (Zf BK448.out)
    replace BK449 := Aside0.mk (Zf BK449.out)
    replace BK454 := Aside0.mk (Zf BK454.out)
    replace HB := Aside0.mk (Zj HB.out)
    have p456 : 0 ≤ (x7_1 : Int) := of_decide_eq_true as_
    have q456 : x7_1 < (l1.length : Int) := of_decide_eq_true as_
    obtain ⟨ad456, e456, hx456_0⟩ := Zx HR1.out x7_1 p456 q456
    have hw456_0 := hx456_0
    cases e456
    replace hx456_0 := (HB.out.cell (World.block_lt_of_cell? w _ hx456_0)).trans hx456_0
    replace p456 := eq_true p456
    replace q456 := eq_true q456
    refine start_ (n := 9) (S := fun w' => w'.cell? ⟨gb448, 0, none⟩ = some (.int .i64 a0_0) ∧ w'.cell? ⟨gb448, 1, none⟩ = some (.slice A0_1 l0_1.length c0_1) ∧ w'.cell? (ad456.add (x7_1).toNat) = some (.int .i64 (rd l1 x7_1))) (ds := []) (m_ 9 0) (by kernel_rfl) rfl rfl ⟨(Za BK448.out 0).trans rfl, (Za BK448.out 1).trans rfl, ((HB.out.cell (World.block_lt_of_cell? w _ hw456_0)).trans hw456_0)⟩ (fun hHeld => ?_); refine with_tabW spec_WithClaim.tab6 spec_WithClaim.bits6 (fun HT_ HW_ => ?_)
    generalize wr.drew = w30 at BK448 BK449 BK454 HB hx456_0 hHeld ⊢
    refine pu_ 0 21 (m_ 9 1) ?_
    refine pu_ 1 22 (m_ 9 3) ?_
    refine pu_ 2 23 (m_ 9 7) ?_
    refine pu_ 4 25 (m_ 9 23) ?_
    refine tk3_ 3 24 (m_ 9 31) hHeld ?_
    refine tk3_ 5 26 (m_ 9 63) hHeld ?_
    refine pu_ 6 27 (m_ 9 127) ?_
    refine on_ 7 28 (m_ 9 255) (fun K hK => ?_)
    refine goes_ Try.func58 (by kernel_rfl) rfl #[.int .i64 (rd l1 x7_1), .int .i64 0, .int .i64 (wrap64 (a0_0 - 1))] (by rfl) rfl rfl ar_ ?_
    with_reducible refine (spec_l1In.calls (rd l1 x7_1) 0 (wrap64 (a0_0 - 1)) false _ A18.out).mono ?_
    rintro e w' ⟨rfl, ⟨nd, rfl⟩⟩
    refine ⟨_, rfl, ?_⟩
    refine hK.out _ _ ⟨(Za BK448.out 0).trans rfl, (Za BK448.out 1).trans rfl, ((HB.out.cell (World.block_lt_of_cell? w _ hw456_0)).trans hw456_0)⟩ (fun hHeld => ?_)
    clear hK K
    refine no_ 28 ?_
    refine pu_ 8 29 (m_ 9 511) ?_
    refine done_ (done_of HT_.out (by kernel_rfl)) ?_
    have hnb31 := NB448_449.out
    have hnc31 := NB449_448.out
    have hnb32 := NB448_454.out
    have hnc32 := NB454_448.out
    obtain ⟨hcz33_0, hcz33_1, hfz33_0, hfz33_1⟩ := c2_ BK448.out
    (try clear BK448)
    (try clear BK454)
    try go_wp2_with (first | ((with_reducible refine Zl (f := 92) rfl ?_); refine ZI (some 31) rfl rfl Try.func92 (by kernel_rfl) rfl #[.agg #[.int .i64 a0_0, .slice A0_1 l0_1.length c0_1]] rfl ar_ ?_; (with_reducible refine (spec_l4Copy.calls k1 a0_0 _ _ l0_1 t465 t466 _ ?side1 ?side2 A29.out).mono ?_); (case side1 => exact sA_ (Kd.C_below HR0_1.out hB_)); (case side2 => exact HC0_1.out); rintro e w34 ⟨v467, rfl, ho0, hb⟩; refine ⟨_, rfl, ?_⟩; have HO468 := Aside0.mk (Kd.S_lower ho0 (Zm hB_)); replace BK449 := Aside0.mk (Zg (bq_ BK449.out) hb); replace HB := Aside0.mk (Zh hB_ hb); (try clear hb); (try clear ho0); obtain ⟨hcz35_0, hcz35_1, hfz35_0, hfz35_1⟩ := c2_ BK449.out; obtain ⟨Ao36, co36, eo36⟩ := ZN HO468.out; subst eo36))
    refine bodyPost_ret (results_ct rfl _ _ gb449 27 #[.int .i64 t465, .slice Ao36 t466.length co36] (0, 0) _ rfl (by (with_reducible repeat (first | refine Ze ?_ _ | refine Zf ?_ | refine Zd ?_ _)); refine ZB (cs := #[.int .i64 t465, .slice none 0 0]) ?_ 1 _ rfl; (with_reducible repeat (first | refine Ze ?_ _ | refine Zf ?_ | refine Zd ?_ _)); refine ZB (cs := #[.int .i64 x450000_1, .slice none 0 0]) ?_ 0 _ rfl; (with_reducible repeat (first | refine Ze ?_ _ | refine Zf ?_ | refine Zd ?_ _)); exact BK449.out) Try.underlying27 rfl (by kernel_rfl)) rfl ?_
    exact ⟨_, er_, by (with_reducible repeat (first | apply Zs | apply Zr | apply Zp)); exact Zt (Zq (p := ⟨gb449, 1, none⟩) (Zq (p := ⟨gb449, 0, none⟩) (Zv HO468.out BK449.out (by decide)) (fun _ hk => hk.2) (.int .i64 t465)) (fun _ hk => hk.2) (.slice Ao36 t466.length co36)) (fun _ hk => trivial), hB_⟩
   subst c19
   have H1 : (if x455001_1.length < 5864062014805 then (spec_WithClaim.l0 k1 l1 (wrap64 (x7_1 + 1)) a0_0 l0_1 (wrap64 (t455 + 1)) (x455001_1 ++ [(([a0_0, rd l1 x7_1] : List Int))])) else (none)) = some (r1, r2, r3) := by rw [if_pos rfl] at H; exact H
   clear H
   have H := H1
   clear H1
   obtain ⟨y459, hy459⟩ : ∃ y_ : List Int, y_ = (([a0_0, rd l1 x7_1] : List Int)) := ⟨_, rfl⟩
   replace H : (if x455001_1.length < 5864062014805 then (spec_WithClaim.l0 k1 l1 (wrap64 (x7_1 + 1)) a0_0 l0_1 (wrap64 (t455 + 1)) (x455001_1 ++ [y459])) else (none)) = some (r1, r2, r3) := hy_ hy459 H
   have Ny459 := Aside0.mk hy459
   clear hy459
   by_cases c20 : x455001_1.length < 5864062014805
   rotate_left
   ·rw [if_neg c20] at H
    exact absurd H (by simp)
   rw [if_pos c20] at H
   have LMc20 := Aside0.mk c20
   clear c20
   obtain ⟨y462, hy462⟩ : ∃ y_ : List (List Int), y_ = (x455001_1 ++ [y459]) := ⟨_, rfl⟩
   replace H : (spec_WithClaim.l0 k1 l1 (wrap64 (x7_1 + 1)) a0_0 l0_1 (wrap64 (t455 + 1)) y462) = some (r1, r2, r3) := hy_ hy462 H
   have Ny462 := Aside0.mk hy462
   clear hy462
   have H' := Aside0.mk H
   clear H
   try go_wp2
   replace HO_455001 := Aside0.mk (Zp HO_455001.out)
   replace BK448 := Aside0.mk (Zf BK448.out)
   replace BK449 := Aside0.mk (Zf BK449.out)
   replace BK454 := Aside0.mk (Zf BK454.out)
   replace HB := Aside0.mk (Zj HB.out)
   have p456 : 0 ≤ (x7_1 : Int) := of_decide_eq_true as_
   have q456 : x7_1 < (l1.length : Int) := of_decide_eq_true as_
   obtain ⟨ad456, e456, hx456_0⟩ := Zx HR1.out x7_1 p456 q456
   have hw456_0 := hx456_0
   cases e456
   replace hx456_0 := (HB.out.cell (World.block_lt_of_cell? w _ hx456_0)).trans hx456_0
   replace p456 := eq_true p456
   replace q456 := eq_true q456
   refine start_ (n := 9) (S := fun w' => w'.cell? ⟨gb448, 0, none⟩ = some (.int .i64 a0_0) ∧ w'.cell? ⟨gb448, 1, none⟩ = some (.slice A0_1 l0_1.length c0_1) ∧ w'.cell? (ad456.add (x7_1).toNat) = some (.int .i64 (rd l1 x7_1))) (ds := []) (m_ 9 0) (by kernel_rfl) rfl rfl ⟨(Za BK448.out 0).trans rfl, (Za BK448.out 1).trans rfl, ((HB.out.cell (World.block_lt_of_cell? w _ hw456_0)).trans hw456_0)⟩ (fun hHeld => ?_); refine with_tabW spec_WithClaim.tab6 spec_WithClaim.bits6 (fun HT_ HW_ => ?_)
   generalize wr.drew = w21 at HO_455001 BK448 BK449 BK454 HB hx456_0 hHeld ⊢
   refine pu_ 0 21 (m_ 9 1) ?_
   refine pu_ 1 22 (m_ 9 3) ?_
   refine pu_ 2 23 (m_ 9 7) ?_
   refine pu_ 4 25 (m_ 9 23) ?_
   refine tk3_ 3 24 (m_ 9 31) hHeld ?_
   refine tk3_ 5 26 (m_ 9 63) hHeld ?_
   refine pu_ 6 27 (m_ 9 127) ?_
   refine on_ 7 28 (m_ 9 255) (fun K hK => ?_)
   refine goes_ Try.func58 (by kernel_rfl) rfl #[.int .i64 (rd l1 x7_1), .int .i64 0, .int .i64 (wrap64 (a0_0 - 1))] (by rfl) rfl rfl ar_ ?_
   with_reducible refine (spec_l1In.calls (rd l1 x7_1) 0 (wrap64 (a0_0 - 1)) true _ A18.out).mono ?_
   rintro e w' ⟨rfl, ⟨nd, rfl⟩⟩
   refine ⟨_, rfl, ?_⟩
   refine hK.out _ _ ⟨(Za BK448.out 0).trans rfl, (Za BK448.out 1).trans rfl, ((HB.out.cell (World.block_lt_of_cell? w _ hw456_0)).trans hw456_0)⟩ (fun hHeld => ?_)
   clear hK K
   refine no_ 28 ?_
   refine pu_ 8 29 (m_ 9 511) ?_
   refine done_ (done_of HT_.out (by kernel_rfl)) ?_
   try go_wp2
   (try (rw [drewN_self w21]; generalize hq_ : World.drewN w21 _ = w21; have n0_ : Aside0 (Kd.S (Kd.slice 3 (Kd.int .i64)) 31 w21 w.heap.size (fun _ => True) u455001 x455001_1) := ⟨by rw [← hq_]; exact (rS_ HO_455001.out)⟩; have n1_ : Aside0 (w21.heap[gb448]? = some (.cells #[.int .i64 a0_0, .slice A0_1 l0_1.length c0_1] 27 (0, 0))) := ⟨by rw [← hq_]; exact (bk_ BK448.out)⟩; have n2_ : Aside0 (w21.heap[gb449]? = some (.cells #[.int .i64 x450000_1, .slice none 0 0] 27 (0, 0))) := ⟨by rw [← hq_]; exact (bk_ BK449.out)⟩; have n3_ : Aside0 (w21.heap[gb454]? = some (.cells #[.int .i64 (wrap64 (t455 + 1)), u455001] 27 (0, 0))) := ⟨by rw [← hq_]; exact (bk_ BK454.out)⟩; have n4_ : Aside0 (Below w.heap.size w w21) := ⟨by rw [← hq_]; exact hB_⟩; clear HO_455001 BK448 BK449 BK454 HB hq_; have HO_455001 := n0_; have BK448 := n1_; have BK449 := n2_; have BK454 := n3_; have HB := n4_; clear n0_ n1_ n2_ n3_ n4_))
   (try (have hcugb448_0 : w21.cell? ⟨gb448, 0, none⟩ = some (.int .i64 a0_0) := (Za BK448.out 0).trans rfl))
   (try (have hfugb448_0 := Zb BK448.out 0))
   (try (have hcugb448_1 : w21.cell? ⟨gb448, 1, none⟩ = some (.slice A0_1 l0_1.length c0_1) := (Za BK448.out 1).trans rfl))
   (try (have hfugb448_1 := Zb BK448.out 1))
   (try (have hcugb449_0 : w21.cell? ⟨gb449, 0, none⟩ = some (.int .i64 x450000_1) := (Za BK449.out 0).trans rfl))
   (try (have hfugb449_0 := Zb BK449.out 0))
   (try (have hcugb449_1 : w21.cell? ⟨gb449, 1, none⟩ = some (.slice none 0 0) := (Za BK449.out 1).trans rfl))
   (try (have hfugb449_1 := Zb BK449.out 1))
   (try (have hcugb454_0 : w21.cell? ⟨gb454, 0, none⟩ = some (.int .i64 (wrap64 (t455 + 1))) := (Za BK454.out 0).trans rfl))
   (try (have hfugb454_0 := Zb BK454.out 0))
   (try (have hcugb454_1 : w21.cell? ⟨gb454, 1, none⟩ = some (u455001) := (Za BK454.out 1).trans rfl))
   (try (have hfugb454_1 := Zb BK454.out 1))
   replace HO_455001 := Aside0.mk (Zp HO_455001.out)
   replace BK448 := Aside0.mk (Zf BK448.out)
   replace BK449 := Aside0.mk (Zf BK449.out)
   replace BK454 := Aside0.mk (Zf BK454.out)
   replace HB := Aside0.mk (Zj HB.out)
   have p458 : 0 ≤ (x7_1 : Int) := of_decide_eq_true as_
   have q458 : x7_1 < (l1.length : Int) := of_decide_eq_true as_
   obtain ⟨ad458, e458, hx458_0⟩ := Zx HR1.out x7_1 p458 q458
   have hw458_0 := hx458_0
   obtain rfl : ad456 = ad458 := (by injection e458)
   replace hx458_0 := (HB.out.cell (World.block_lt_of_cell? w _ hx458_0)).trans hx458_0
   replace p458 := eq_true p458
   replace q458 := eq_true q458
   refine start_ (n := 13) (S := fun w' => w'.cell? ⟨gb454, 0, none⟩ = some (.int .i64 (wrap64 (t455 + 1))) ∧ w'.cell? ⟨gb454, 1, none⟩ = some (u455001) ∧ w'.cell? ⟨gb448, 0, none⟩ = some (.int .i64 a0_0) ∧ w'.cell? ⟨gb448, 1, none⟩ = some (.slice A0_1 l0_1.length c0_1) ∧ w'.cell? (ad456.add (x7_1).toNat) = some (.int .i64 (rd l1 x7_1))) (ds := [12]) (m_ 13 0) (by kernel_rfl) rfl rfl ⟨(Za BK454.out 0).trans rfl, (Za BK454.out 1).trans rfl, (Za BK448.out 0).trans rfl, (Za BK448.out 1).trans rfl, ((HB.out.cell (World.block_lt_of_cell? w _ hw458_0)).trans hw458_0)⟩ (fun hHeld => ?_); refine with_tabW spec_WithClaim.tab8 spec_WithClaim.bits8 (fun HT_ HW_ => ?_)
   generalize w21.drew = w22 at HO_455001 BK448 BK449 BK454 HB hx458_0 hHeld ⊢
   refine pu_ 0 32 (m_ 13 1) ?_
   refine pu_ 2 34 (m_ 13 5) ?_
   refine pu_ 4 36 (m_ 13 21) ?_
   refine pu_ 5 37 (m_ 13 53) ?_
   refine pu_ 6 38 (m_ 13 117) ?_
   refine tk5_ 1 33 (m_ 13 119) hHeld ?_
   refine tk5_ 3 35 (m_ 13 127) hHeld ?_
   refine tk5_ 7 39 (m_ 13 255) hHeld ?_
   refine on_ 8 40 (m_ 13 511) (fun K hK => ?_)
   refine Kd.R_lit_step (Kd.int .i64) _ 3 ?hg (N := 40) ?hd (xs := ([a0_0, rd l1 x7_1] : List Int)) (inner := [.int .i64 a0_0, .int .i64 (rd l1 x7_1)]) (ok := fun _ => True) (okp := fun _ => True) ?hr ?hp (fun _ hk => hk) trivial (Below.refl _ _) (Nat.le_refl _) (by simp) ?_; (case hd => rfl); (case hg => rfl); (case hr => first | (go_simp; done) | (go_simp; rfl)); (case hp => exact (Reps.one (show Kd.M (Kd.int .i64) _ _ _ a0_0 [.int .i64 a0_0] from rfl) (Reps.one (show Kd.M (Kd.int .i64) _ _ _ (rd l1 x7_1) [.int .i64 (rd l1 x7_1)] from rfl) (Reps.none _ _))))
   intro v460 w23 ho24 hb hg_ hnew_
   clear hg_ hnew_
   (first | rw [← Ny459.out] at ho24 | (simp only [Int.reduceToNat] at ho24; rw [← Ny459.out] at ho24))
   replace HO_455001 := Aside0.mk (Kd.S_elder' (rS_ HO_455001.out) (Kd.R_base ho24) hb)
   have HO461 := Aside0.mk (Kd.R_lower ho24 (Zm hB_))
   replace BK448 := Aside0.mk (Zg (bq_ BK448.out) hb)
   replace BK449 := Aside0.mk (Zg (bq_ BK449.out) hb)
   replace BK454 := Aside0.mk (Zg (bq_ BK454.out) hb)
   replace HB := Aside0.mk (Zh hB_ hb)
   clear hb ho24
   obtain ⟨Ao26, co26, eo26⟩ := Kd.R_slice HO461.out
   (first | subst eo26 | (injection eo26 with f1_ f2_ f3_; have f4_ := f1_.symm; have f5_ := f3_.symm; clear f1_ f2_ f3_; subst f4_; subst f5_))
   refine hK.out _ _ ⟨(Za BK454.out 0).trans rfl, (Za BK454.out 1).trans rfl, (Za BK448.out 0).trans rfl, (Za BK448.out 1).trans rfl, ((HB.out.cell (World.block_lt_of_cell? w _ hw458_0)).trans hw458_0)⟩ (fun hHeld => ?_)
   clear hK K
   refine no_ 40 ?_
   refine on_ 9 41 (m_ 13 1023) (fun K hK => ?_)
   refine value_ (w1 := ?_) (v := ?_) (by rfl) rfl ?_ ?_
   rotate_left 2
   ·go_simp
    constructor
    ·rfl
    rfl
   refine hK.out _ _ ⟨(Za (Zd BK454.out _) 0).trans rfl, (Za (Zd BK454.out _) 1).trans rfl, (Za (Zd BK448.out _) 0).trans rfl, (Za (Zd BK448.out _) 1).trans rfl, (World.cell?_alloc_lt _ _ _ (World.block_lt_of_cell? _ _ (((HB.out.cell (World.block_lt_of_cell? w _ hw458_0)).trans hw458_0)))).trans (((HB.out.cell (World.block_lt_of_cell? w _ hw458_0)).trans hw458_0))⟩ (fun hHeld => ?_)
   clear hK K
   refine no_ 41 ?_
   refine on_ 10 42 (m_ 13 2047) (fun K hK => ?_)
   refine Kd.S_append_step (Kd.slice 3 (Kd.int .i64)) (w0 := w) w.heap.size (by rfl) (.tmp 33) (.tmp 41) 22 31 (.slice none 0 0) 24 rfl Try.underlying22 info31 rfl (by decide) (by omega) u455001 x455001_1 y459 [.slice Ao26 y459.length co26] (fun _ => True) (fun k_ => some k_ = (.slice Ao26 y459.length co26 : Value).ownBlock) rfl rfl ?aP (fun k_ hk_ => ((Zw (ok' := fun k_ => ((fun _ => True)) k_ ∧ some k_ ≠ (u455001 : Value).ownBlock) (Kd.R_apart' (HO461.out) (Kd.S_typed HO_455001.out) (by decide)) (fun k_ hk => ⟨trivial, hk.2⟩))).1 k_ hk_.symm) ?aF ?aO ?aB ?aS ?aL ?_
   (case aP => exact Kd.M_row (Zw (Kd.R_tight rfl (Zw (ok' := fun k_ => ((fun _ => True)) k_ ∧ some k_ ≠ (u455001 : Value).ownBlock) (Kd.R_apart' (HO461.out) (Kd.S_typed HO_455001.out) (by decide)) (fun k_ hk => ⟨trivial, hk.2⟩))) (fun _ h_ => h_)))
   (case aB => exact hB_)
   (case aF => exact (fun _ _ => trivial))
   (case aO => exact (by (with_reducible repeat (first | apply Zs | apply Zr | apply Zp)); exact Zt HO_455001.out (fun k_ hk => ⟨trivial, fun e_ => hk.2 e_⟩)))
   (case aS => exact (Zm hB_))
   (case aL => have := LMc20.out; omega)
   intro v463 w25 ho hb hg hat
   rw [← Ny462.out] at ho
   have n0_ := Aside0.mk (ZT (bq_ BK448.out) hg (Kd.S_ne HO_455001.out BK448.out (by decide)))
   have n1_ := Aside0.mk (ZT (bq_ BK449.out) hg (Kd.S_ne HO_455001.out BK449.out (by decide)))
   have n2_ := Aside0.mk (ZT (bq_ BK454.out) hg (Kd.S_ne HO_455001.out BK454.out (by decide)))
   have n3_ := Aside0.mk (hb)
   have n4_ := Aside0.mk (ho)
   clear BK448
   clear BK449
   clear BK454
   clear HB
   clear HO_455001
   clear HO461
   have BK448 := n0_
   have BK449 := n1_
   have BK454 := n2_
   have HB := n3_
   have HO464 := n4_
   clear n0_ n1_ n2_ n3_ n4_
   clear ho hb hg hat
   obtain ⟨Ao27, co27, eo27⟩ := ZN HO464.out
   (first | subst eo27 | (injection eo27 with f1_ f2_ f3_; have f4_ := f1_.symm; have f5_ := f3_.symm; clear f1_ f2_ f3_; subst f4_; subst f5_))
   refine hK.out _ _ ⟨(Za BK454.out 0).trans rfl, (Za BK454.out 1).trans rfl, (Za BK448.out 0).trans rfl, (Za BK448.out 1).trans rfl, ((HB.out.cell (World.block_lt_of_cell? w _ hw458_0)).trans hw458_0)⟩ (fun hHeld => ?_)
   clear hK K
   refine no_ 42 ?_
   refine pu_ 11 43 (m_ 13 4095) ?_
   refine last_ (i := 12) (N := none) (m_ 13 8191) rfl rfl (one_of HT_.out (by kernel_rfl)) (by decide) (fun K hK => ?_)
   have hs28 : w25.cell? ⟨gb454, 1, none⟩ = some (u455001) := (Za BK454.out 1).trans rfl
   have hfs28 := Zb BK454.out 1
   have hns28_0 := NB448_454.out
   have hns28_1 := NB449_454.out
   have hms28_0 := NB454_448.out
   have hms28_1 := NB454_449.out
   refine skip_ (w1 := ?_) (by rfl) rfl ?_ ?_
   rotate_left
   ·go_simp
    rfl
   refine hK.out _ _ ?_
   clear hK K
   refine done_ (done_of HT_.out (by kernel_rfl)) ?_
   try go_wp2
   go_roundg k1
   case measure => have := HK1.out; omega
   case rel => exact ⟨(wrap64 (x7_1 + 1)), (x450000_1), (y462), (.slice Ao27 y462.length co27), sm_, H', ⟨by have := HK1.out; omega⟩, ⟨by (with_reducible repeat (first | apply Zs | apply Zr | apply Zp)); exact Zt (Zq (p := ⟨gb454, 1, none⟩) (Zv HO464.out BK454.out (by decide)) (fun _ hk => hk.2) (.slice Ao27 y462.length co27)) (fun _ hk => trivial)⟩, ⟨by (with_reducible repeat (first | refine Ze ?_ _ | refine Zf ?_ | refine Zd ?_ _)); refine ZG ?_ NB448_454.out _; (with_reducible repeat (first | refine Ze ?_ _ | refine Zf ?_ | refine Zd ?_ _)); exact BK448.out⟩, ⟨by (with_reducible repeat (first | refine Ze ?_ _ | refine Zf ?_ | refine Zd ?_ _)); refine ZG ?_ NB449_454.out _; (with_reducible repeat (first | refine Ze ?_ _ | refine Zf ?_ | refine Zd ?_ _)); exact BK449.out⟩, ⟨by (with_reducible repeat (first | refine Ze ?_ _ | refine Zf ?_ | refine Zd ?_ _)); refine ZB (cs := #[.int .i64 (wrap64 (t455 + 1)), u455001]) ?_ 1 _ rfl; (with_reducible repeat (first | refine Ze ?_ _ | refine Zf ?_ | refine Zd ?_ _)); exact BK454.out⟩, ⟨hB_⟩⟩

end Go.Proofs.Ytdlobolnajcfnaa.PFnDisputes
