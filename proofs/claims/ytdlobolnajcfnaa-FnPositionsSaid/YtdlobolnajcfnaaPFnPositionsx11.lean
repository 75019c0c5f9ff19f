-- Written by a program of this session (hooks of mine on the print): Lean checks it.
import Derived.Test.YtdlobolnajcfnaaPFnPositionsx0
import Derived.Test.YtdlobolnajcfnaaPFnPositionsx1
import Derived.Test.YtdlobolnajcfnaaPFnPositionsx2
import Derived.Test.YtdlobolnajcfnaaPFnPositionsx10
namespace Go.Proofs.Ytdlobolnajcfnaa.PFnPositions
open Go.RowKit Go.Proofs.YtdlobolnajcfnaaW.PrintWords Go.Proofs.YtdlobolnajcfnaaW.PrintLast Go.Proofs.YtdlobolnajcfnaaW.PrintMore
attribute [local go_sem] max2_int min2_int max_two min_two max_three min_three max_four min_four   -- for this text's walks alone
set_option linter.unusedVariables false
set_option linter.unusedSimpArgs false
set_option maxHeartbeats 8000000
set_option maxRecDepth 100000

/-! ### spec_HitBy: function 134 -/
mutual
def spec_HitBy.l0 : Nat → List Int → List Int → Int → Int → List (List Int) → Option (List Int)
 | 0, _, _, _, _, _ => none
 | k + 1, x1, x5, x6, x415000, x415001 => if x6 < x415000 then ((spec_IsGraph.f k x415000 x415001).bind fun t418 => (spec_HitBy.j1 k x1 x5 x6 t418 x415000 x415001)) else (spec_HitBy.j1 k x1 x5 x6 false x415000 x415001)
def spec_HitBy.j1 : Nat → List Int → List Int → Int → Bool → Int → List (List Int) → Option (List Int)
 | 0, _, _, _, _, _, _ => none
 | k + 1, x1, x5, x6, x17, x415000, x415001 => if x17 = true then (spec_HitBy.l1 k x1 x5 x6 false 0 x415000 x415001) else (some x5)
def spec_HitBy.l1 : Nat → List Int → List Int → Int → Bool → Int → Int → List (List Int) → Option (List Int)
 | 0, _, _, _, _, _, _, _ => none
 | k + 1, x1, x5, x6, x7, x8, x415000, x415001 => if x8 < (x415001.length : Int) then (if x7 = true then (spec_HitBy.l1 k x1 x5 x6 true (wrap64 (x8 + 1)) x415000 x415001) else (if 0 ≤ x8 then (if 1 < ((rd_L2 x415001 x8).length : Int) then (if (rd (rd_L2 x415001 x8) 1) = x6 then (if 0 < ((rd_L2 x415001 x8).length : Int) then ((spec_l4Has.f k x1 (rd (rd_L2 x415001 x8) 0)).bind fun t423 => (spec_HitBy.l1 k x1 x5 x6 t423 (wrap64 (x8 + 1)) x415000 x415001)) else (none)) else (spec_HitBy.l1 k x1 x5 x6 false (wrap64 (x8 + 1)) x415000 x415001)) else (none)) else (none))) else (if x7 = true then (if x5.length < 17592186044416 then (spec_HitBy.l0 k x1 (x5 ++ [x6]) (wrap64 (x6 + 1)) x415000 x415001) else (none)) else (spec_HitBy.l0 k x1 x5 (wrap64 (x6 + 1)) x415000 x415001))
end
def spec_HitBy.f (k : Nat) (a0_0 : Int) (l0_1 : List (List Int)) (l1 : List Int) : Option (List Int) := spec_HitBy.l0 k l1 (([] : List Int)) 0 a0_0 l0_1
theorem spec_HitBy.mono_l : ∀ k, (∀ y0 y1 y2 y3 y4, LeO (spec_HitBy.l0 k y0 y1 y2 y3 y4) (spec_HitBy.l0 (k + 1) y0 y1 y2 y3 y4)) ∧ (∀ y0 y1 y2 y3 y4 y5, LeO (spec_HitBy.j1 k y0 y1 y2 y3 y4 y5) (spec_HitBy.j1 (k + 1) y0 y1 y2 y3 y4 y5)) ∧ (∀ y0 y1 y2 y3 y4 y5 y6, LeO (spec_HitBy.l1 k y0 y1 y2 y3 y4 y5 y6) (spec_HitBy.l1 (k + 1) y0 y1 y2 y3 y4 y5 y6))
 | 0 => ⟨fun _ _ _ _ _ r h => by simp [spec_HitBy.l0] at h, fun _ _ _ _ _ _ r h => by simp [spec_HitBy.j1] at h, fun _ _ _ _ _ _ _ r h => by simp [spec_HitBy.l1] at h⟩
 | k + 1 => by
  obtain ⟨ih0, ih1, ih2⟩ := spec_HitBy.mono_l k
  refine ⟨?_, ?_, ?_⟩
  ·intro y0 y1 y2 y3 y4
   unfold spec_HitBy.l0
   repeat' with_reducible first | apply ih0 | apply ih1 | apply ih2 | apply spec_IsGraph.mono | apply spec_l4Has.mono | apply Zy | apply Zg | refine Zl ?_ ?_ | refine Zh ?_ (fun _ => ?_)
  ·intro y0 y1 y2 y3 y4 y5
   unfold spec_HitBy.j1
   repeat' with_reducible first | apply ih0 | apply ih1 | apply ih2 | apply spec_IsGraph.mono | apply spec_l4Has.mono | apply Zy | apply Zg | refine Zl ?_ ?_ | refine Zh ?_ (fun _ => ?_)
  ·intro y0 y1 y2 y3 y4 y5 y6
   unfold spec_HitBy.l1
   repeat' with_reducible first | apply ih0 | apply ih1 | apply ih2 | apply spec_IsGraph.mono | apply spec_l4Has.mono | apply Zy | apply Zg | refine Zl ?_ ?_ | refine Zh ?_ (fun _ => ?_)
theorem spec_HitBy.mono : ∀ a0 a1 a2 k, LeO (spec_HitBy.f k a0 a1 a2) (spec_HitBy.f (k + 1) a0 a1 a2) := by
 intro a0 a1 a2 k
 obtain ⟨ih0, ih1, ih2⟩ := spec_HitBy.mono_l k
 unfold spec_HitBy.f
 repeat' with_reducible first | apply ih0 | apply ih1 | apply ih2 | apply spec_IsGraph.mono | apply spec_l4Has.mono | apply Zy | apply Zg | refine Zl ?_ ?_ | refine Zh ?_ (fun _ => ?_)
theorem spec_HitBy.calls (k : Nat) (a0_0 : Int) (A0_1 : Option Addr) (c0_1 : Nat) (l0_1 : List (List Int)) (A1 : Option Addr) (c1 : Nat) (l1 : List Int) (r : List Int) (w : World) (hr0_1 : Kd.C (Kd.slice 3 (Kd.int .i64)) w A0_1 l0_1.length l0_1) (hc0_1 : l0_1.length ≤ c0_1) (hr1 : Kd.C (Kd.int .i64) w A1 l1.length l1) (hc1 : l1.length ≤ c1) (h : spec_HitBy.f k a0_0 l0_1 l1 = some r) :
  Calls Try.prog 134 #[.agg #[.int .i64 a0_0, .slice A0_1 l0_1.length c0_1], .slice A1 l1.length c1] w fun e w' => ∃ v0_ : Value, e = .returned (v0_) ∧ Kd.R (Kd.int .i64) 3 w' w.heap.size (fun _ => True) v0_ r ∧ Below w.heap.size w w' := by
 have hu27 := Try.underlying27
 have HR0_1 := Aside0.mk hr0_1
 have HC0_1 := Aside0.mk hc0_1
 clear hr0_1 hc0_1
 have HR1 := Aside0.mk hr1
 have HC1 := Aside0.mk hc1
 clear hr1 hc1
 have HB := Aside0.mk (Below.refl w.heap.size w)
 have H := h
 unfold spec_HitBy.f at H
 clear h
 obtain ⟨y415, hy415⟩ : ∃ y_ : List Int, y_ = (([] : List Int)) := ⟨_, rfl⟩
 replace H : (spec_HitBy.l0 k l1 y415 0 a0_0 l0_1) = some r := hy_ hy415 H
 have Ny415 := Aside0.mk hy415
 clear hy415
 have H' := Aside0.mk H
 clear H
 go_enter Try.func134, Try.ntmps134
 go_wp2_with (first | ((with_reducible refine Zz (N := 2) rfl ?_); refine ZI ?hg (N := 2) ?hd (cs := #[.int .i64 a0_0, .slice A0_1 l0_1.length c0_1]) (t := 27) ?hr ?_; (case hd => rfl); (case hg => rfl); (case hr => first | (go_simp; done) | (go_simp; rfl)); intro gb414 hg w3 hbox hb; have BK414 := Aside0.mk (hbox); have GW414 := Aside0.mk ((hz_ hg : w.heap.size ≤ gb414)); have GE414 := Aside0.mk ((hz_ hg : w.heap.size ≤ gb414)); replace HB := Aside0.mk (Zc hB_ hb); clear hb hbox hg) | ((with_reducible refine Zz (N := 9) rfl ?_); refine Kd.R_lit (Kd.int .i64) _ 3 ?hg (N := 9) ?hd (xs := ([] : List Int)) (inner := []) (ok := fun _ => True) (okp := fun _ => True) ?hr ?hp (fun _ hk => hk) trivial (Below.refl _ _) (Nat.le_refl _) (by simp) ?_; (case hd => rfl); (case hg => rfl); (case hr => first | (go_simp; done) | (go_simp; rfl)); (case hp => exact (Reps.none _ _)); intro v416 w4 ho5 hb hg_ hnew_; clear hg_ hnew_; (first | rw [← Ny415.out] at ho5 | (simp only [Int.reduceToNat] at ho5; rw [← Ny415.out] at ho5)); have HO417 := Aside0.mk (Kd.R_lower ho5 (Ze hB_)); replace BK414 := Aside0.mk (Zd (bq_ BK414.out) hb); replace HB := Aside0.mk (Zc hB_ hb); clear hb ho5))
 go_loopg [5, 6] k (fun kq v5 v6 w' => ∃ (x5_1 : List Int) (x6_1 : Int), v6 = .int .i64 x6_1 ∧ Aside0 (spec_HitBy.l0 kq l1 x5_1 x6_1 a0_0 l0_1 = some r) ∧ Aside0 (kq ≤ k) ∧ Aside0 (Kd.R (Kd.int .i64) 3 w' w.heap.size (fun _ => True) v5 x5_1) ∧ Aside0 (w'.heap[gb414]? = some (.cells #[.int .i64 a0_0, (.slice A0_1 l0_1.length c0_1)] 27 (0, 0))) ∧ Aside0 (Below w.heap.size w w'))
 case atStart => exact ⟨(y415), (0), sm_, H', ⟨Nat.le_refl _⟩, ⟨rR_ HO417.out⟩, ⟨bk_ BK414.out⟩, ⟨hB_⟩⟩
 case round =>
  clear H'
  try clear c1
  try clear p2
  obtain ⟨x5_1, x6_1, rfl, HA, HK1, HO_5, BK414, HB⟩ := hrel
  cases gk with
  | zero => exact absurd HA.out (by simp [spec_HitBy.l0])
  | succ k1 =>
   have H := HA.out
   clear HA
   simp only [spec_HitBy.l0] at H
   have HC6 := Aside0.mk H
   clear H
   go_upto_region 3 with (fail)
   go_cut [17] (fun v17 wc => ∃ (kq : Nat) (x17_5 : Bool), v17 = .bool x17_5 ∧ Aside0 (spec_HitBy.j1 kq l1 x5_1 x6_1 x17_5 a0_0 l0_1 = some r) ∧ Aside0 (kq ≤ k1) ∧ Aside0 (Kd.R (Kd.int .i64) 3 wc w.heap.size (fun _ => True) u5 x5_1) ∧ Aside0 (wc.heap[gb414]? = some (.cells #[.int .i64 a0_0, (.slice A0_1 l0_1.length c0_1)] 27 (0, 0))) ∧ Aside0 (Below w.heap.size w wc))
   case first =>
    have H := HC6.out
    clear HC6
    by_cases c7 : x6_1 < a0_0
    rotate_left
    ·rw [if_neg c7] at H
     have c7b0 : decide (x6_1 < a0_0) = false := decide_eq_false c7
     clear c7
     (first | rw [c7b0] | (simp only [i64_w, i32_w]; rw [c7b0]) | skip)
     have H' := Aside0.mk H
     clear H
     obtain ⟨hcz11_0, hcz11_1, hfz11_0, hfz11_1⟩ := c2_ BK414.out
     go_wp2
     go_meet
     case rel => exact ⟨_, (false), sm_, H', ⟨by have := HK1.out; first | omega | exact Nat.le_refl _⟩, ⟨rR_ HO_5.out⟩, ⟨bk_ BK414.out⟩, ⟨hB_⟩⟩
    rw [if_pos c7] at H
    have c7b0 : decide (x6_1 < a0_0) = true := decide_eq_true c7
    clear c7
    (first | rw [c7b0] | (simp only [i64_w, i32_w]; rw [c7b0]) | skip)
    obtain ⟨t418, A8, H⟩ := bd_ H
    try dsimp only at H
    have H' := Aside0.mk H
    clear H
    obtain ⟨hcz9_0, hcz9_1, hfz9_0, hfz9_1⟩ := c2_ BK414.out
    go_wp2_with (first | (go_at_call 57; (with_reducible refine (spec_IsGraph.calls k1 a0_0 _ _ l0_1 t418 _ ?side1 ?side2 A8.out).mono ?_); (case side1 => exact cb_ HR0_1.out); (case side2 => exact HC0_1.out); rintro e w10 ⟨rfl, hb⟩; replace HO_5 := Aside0.mk (Kd.R_below (rR_ HO_5.out) hb); replace BK414 := Aside0.mk (Zd (bq_ BK414.out) hb); replace HB := Aside0.mk (Zc hB_ hb); (try clear hb)))
    go_meet
    case rel => exact ⟨_, (t418), sm_, H', ⟨by have := HK1.out; first | omega | exact Nat.le_refl _⟩, ⟨rR_ HO_5.out⟩, ⟨bk_ BK414.out⟩, ⟨hB_⟩⟩
   case rest =>
    clear HC6
    try clear c1
    try clear p2
    try clear c7
    try clear c7b0
    try clear hcz11_0
    try clear hcz11_1
    try clear hcz9_0
    try clear hcz9_1
    try clear hfz11_0
    try clear hfz11_1
    try clear hfz9_0
    try clear hfz9_1
    try clear p2
    obtain ⟨kq, x17_5, rfl, HA, HJ5, HO_5, BK414, HB⟩ := hcut
    cases kq with
    | zero => exact absurd HA.out (by simp [spec_HitBy.j1])
    | succ kj5 =>
     have H := HA.out
     clear HA
     simp only [spec_HitBy.j1] at H
     by_cases c12 : x17_5 = true
     rotate_left
     ·replace c12 := Bool.eq_false_iff.mpr c12
      subst c12
      rw [if_neg (show ¬ (false = true) by decide)] at H
      try dsimp only at H
      obtain rfl := Option.some.inj H
      go_wp2
      go_ret
      exact ⟨_, er_, rR_ HO_5.out, hB_⟩
     subst c12
     rw [if_pos rfl] at H
     try dsimp only at H
     have H' := Aside0.mk H
     clear H
     go_wp2
     go_loopg [7, 8] kj5 (fun kq v7 v8 w' => ∃ (x7_3 : Bool) (x8_3 : Int), v7 = .bool x7_3 ∧ v8 = .int .i64 x8_3 ∧ Aside0 (spec_HitBy.l1 kq l1 x5_1 x6_1 x7_3 x8_3 a0_0 l0_1 = some r) ∧ Aside0 (kq ≤ kj5) ∧ Aside0 (Kd.R (Kd.int .i64) 3 w' w.heap.size (fun _ => True) u5 x5_1) ∧ Aside0 (w'.heap[gb414]? = some (.cells #[.int .i64 a0_0, (.slice A0_1 l0_1.length c0_1)] 27 (0, 0))) ∧ Aside0 (Below w.heap.size w w'))
     case atStart => exact ⟨(false), (0), sm_, sm_, H', ⟨Nat.le_refl _⟩, ⟨rR_ HO_5.out⟩, ⟨bk_ BK414.out⟩, ⟨hB_⟩⟩
     case round =>
      clear H'
      try clear c1
      try clear p2
      try clear c7
      try clear c7b0
      try clear c12
      try clear hcz11_0
      try clear hcz11_1
      try clear hcz9_0
      try clear hcz9_1
      try clear hfz11_0
      try clear hfz11_1
      try clear hfz9_0
      try clear hfz9_1
      try clear p2
      obtain ⟨x7_3, x8_3, rfl, rfl, HA, HK3, HO_5, BK414, HB⟩ := hrel
      cases gk with
      | zero => exact absurd HA.out (by simp [spec_HitBy.l1])
      | succ k3 =>
       have H := HA.out
       clear HA
       simp only [spec_HitBy.l1] at H
       by_cases c13 : x8_3 < (l0_1.length : Int)
       rotate_left
       ·rw [if_neg c13] at H
        have c13b0 : decide (x8_3 < (l0_1.length : Int)) = false := decide_eq_false c13
        clear c13
        by_cases c23 : x7_3 = true
        rotate_left
        ·replace c23 := Bool.eq_false_iff.mpr c23
         subst c23
         rw [if_neg (show ¬ (false = true) by decide)] at H
         try dsimp only at H
         have H' := Aside0.mk H
         clear H
         obtain ⟨hcz27_0, hcz27_1, hfz27_0, hfz27_1⟩ := c2_ BK414.out
         go_wp2
         go_roundg k3
         case measure => have := HK1.out; have := HJ5.out; have := HK3.out; omega
         case rel => exact ⟨(x5_1), (wrap64 (x6_1 + 1)), sm_, H', ⟨by have := HK1.out; have := HJ5.out; have := HK3.out; omega⟩, ⟨rR_ HO_5.out⟩, ⟨bk_ BK414.out⟩, ⟨hB_⟩⟩
        subst c23
        rw [if_pos rfl] at H
        try dsimp only at H
        by_cases c24 : x5_1.length < 17592186044416
        rotate_left
        ·rw [if_neg c24] at H
         exact absurd H (by simp)
        rw [if_pos c24] at H
        have LMc24 := Aside0.mk c24
        clear c24
        obtain ⟨y424, hy424⟩ : ∃ y_ : List Int, y_ = (x5_1 ++ [x6_1]) := ⟨_, rfl⟩
        replace H : (spec_HitBy.l0 k3 l1 y424 (wrap64 (x6_1 + 1)) a0_0 l0_1) = some r := hy_ hy424 H
        have Ny424 := Aside0.mk hy424
        clear hy424
        have H' := Aside0.mk H
        clear H
        obtain ⟨hcz25_0, hcz25_1, hfz25_0, hfz25_1⟩ := c2_ BK414.out
        go_wp2_with (first | ((with_reducible refine gate_builtin (b := .append) (xs := #[.tmp 51, .tmp 53]) rfl ?_); at_builtin; refine Kd.R_append (Kd.int .i64) (w0 := w) w.heap.size rfl (.tmp 51) (.tmp 53) 31 3 (.int .i64 0) 8 rfl Try.underlying31 info3 rfl (by decide) (by omega) u5 x5_1 x6_1 [.int .i64 x6_1] (fun _ => True) (fun _ => False) rfl rfl ?aP (fun _ hk => hk.elim) ?aF ?aO ?aB ?aS ?aL ?_; (case aP => exact rfl); (case aB => exact hB_); (case aF => exact (fun _ _ => trivial)); (case aO => exact (rR_ HO_5.out)); (case aS => exact (Ze hB_)); (case aL => have := LMc24.out; omega); intro v425 w26 ho hb hg hat; rw [← Ny424.out] at ho; have n0_ := Aside0.mk (ZJ (bq_ BK414.out) hg (Kd.R_ne HO_5.out BK414.out (by decide))); have n1_ := Aside0.mk (hb); have n2_ := Aside0.mk (ho); clear BK414; clear HB; clear HO_5; have BK414 := n0_; have HB := n1_; have HO426 := n2_; clear n0_ n1_ n2_; clear ho hb hg hat))
        go_roundg k3
        case measure => have := HK1.out; have := HJ5.out; have := HK3.out; omega
        case rel => exact ⟨(y424), (wrap64 (x6_1 + 1)), sm_, H', ⟨by have := HK1.out; have := HJ5.out; have := HK3.out; omega⟩, ⟨rR_ HO426.out⟩, ⟨bk_ BK414.out⟩, ⟨hB_⟩⟩
       rw [if_pos c13] at H
       have c13b0 : decide (x8_3 < (l0_1.length : Int)) = true := decide_eq_true c13
       clear c13
       by_cases c14 : x7_3 = true
       ·subst c14
        rw [if_pos rfl] at H
        try dsimp only at H
        have H' := Aside0.mk H
        clear H
        obtain ⟨hcz15_0, hcz15_1, hfz15_0, hfz15_1⟩ := c2_ BK414.out
        go_wp2
        go_roundg k3
        case measure => have := HK1.out; have := HJ5.out; have := HK3.out; omega
        case rel => exact ⟨(true), (wrap64 (x8_3 + 1)), sm_, sm_, H', ⟨by have := HK1.out; have := HJ5.out; have := HK3.out; omega⟩, ⟨rR_ HO_5.out⟩, ⟨bk_ BK414.out⟩, ⟨hB_⟩⟩
       replace c14 := Bool.eq_false_iff.mpr c14
       subst c14
       rw [if_neg (show ¬ (false = true) by decide)] at H
       try dsimp only at H
       by_cases c16 : 0 ≤ x8_3
       rotate_left
       ·rw [if_neg c16] at H
        exact absurd H (by simp)
       rw [if_pos c16] at H
       have c16b0 : decide (0 ≤ x8_3) = true := decide_eq_true c16
       clear c16
       by_cases c17 : 1 < ((rd_L2 l0_1 x8_3).length : Int)
       rotate_left
       ·rw [if_neg c17] at H
        exact absurd H (by simp)
       rw [if_pos c17] at H
       have c17b0 : decide (1 < ((rd_L2 l0_1 x8_3).length : Int)) = true := decide_eq_true c17
       have c17b1 : decide (1 < (rd_L2 l0_1 x8_3).length) = true := decide_eq_true (by omega)
       clear c17
       by_cases c18 : (rd (rd_L2 l0_1 x8_3) 1) = x6_1
       rotate_left
       ·rw [if_neg c18] at H
        have c18b0 : ((rd (rd_L2 l0_1 x8_3) 1) == x6_1) = false := beq_eq_false_iff_ne.mpr c18
        have c18b1 : ((rd (rd_L2 l0_1 x8_3) 1) != x6_1) = true := bne_iff_ne.mpr c18
        have H' := Aside0.mk H
        clear H
        obtain ⟨hcz22_0, hcz22_1, hfz22_0, hfz22_1⟩ := c2_ BK414.out
        have p419 : 0 ≤ (x8_3 : Int) := of_decide_eq_true as_
        have q419 : x8_3 < (l0_1.length : Int) := of_decide_eq_true as_
        obtain ⟨ad419, A419_0, c419_0, e419, hx419_0, hl419_0, hi419_0⟩ := at_L2 HR0_1.out x8_3 p419 q419
        cases e419
        replace hx419_0 := (HB.out.cell (World.block_lt_of_cell? w _ hx419_0)).trans hx419_0
        have HR419_0 := Aside0.mk hi419_0
        have HC419_0 := Aside0.mk hl419_0
        clear hi419_0 hl419_0
        replace p419 := eq_true p419
        replace q419 := eq_true q419
        have p420 : 0 ≤ (1 : Int) := (by omega)
        have q420 : 1 < ((rd_L2 l0_1 x8_3).length : Int) := of_decide_eq_true as_
        obtain ⟨ad420, e420, hx420_0⟩ := Zo HR419_0.out 1 p420 q420
        cases e420
        (try simp only [show (1 : Int).toNat = 1 from rfl, Nat.reduceMul, Nat.reduceEqDiff, Go.Addr.add, ↓reduceIte] at hx420_0)
        have qi420 : (1 < (rd_L2 l0_1 x8_3).length) = True := eq_true (by omega)
        (try rw [show ((1 : Int)).toNat = 1 from rfl] at hx420_0)
        replace hx420_0 := (HB.out.cell (World.block_lt_of_cell? w _ hx420_0)).trans hx420_0
        replace p420 := eq_true p420
        replace q420 := eq_true q420
        go_wp2
        go_roundg k3
        case measure => have := HK1.out; have := HJ5.out; have := HK3.out; omega
        case rel => exact ⟨(false), (wrap64 (x8_3 + 1)), sm_, sm_, H', ⟨by have := HK1.out; have := HJ5.out; have := HK3.out; omega⟩, ⟨rR_ HO_5.out⟩, ⟨bk_ BK414.out⟩, ⟨hB_⟩⟩
       rw [if_pos c18] at H
       have c18b0 : ((rd (rd_L2 l0_1 x8_3) 1) == x6_1) = true := beq_iff_eq.mpr c18
       have c18b1 : ((rd (rd_L2 l0_1 x8_3) 1) != x6_1) = false := bne_eq_false_iff_eq.mpr c18
       clear c18
       by_cases c19 : 0 < ((rd_L2 l0_1 x8_3).length : Int)
       rotate_left
       ·rw [if_neg c19] at H
        exact absurd H (by simp)
       rw [if_pos c19] at H
       have c19b0 : decide (0 < ((rd_L2 l0_1 x8_3).length : Int)) = true := decide_eq_true c19
       have c19b1 : decide (0 < (rd_L2 l0_1 x8_3).length) = true := decide_eq_true (by omega)
       clear c19
       obtain ⟨t423, A20, H⟩ := bd_ H
       try dsimp only at H
       have H' := Aside0.mk H
       clear H
       obtain ⟨hcz21_0, hcz21_1, hfz21_0, hfz21_1⟩ := c2_ BK414.out
       have p419 : 0 ≤ (x8_3 : Int) := of_decide_eq_true as_
       have q419 : x8_3 < (l0_1.length : Int) := of_decide_eq_true as_
       obtain ⟨ad419, A419_0, c419_0, e419, hx419_0, hl419_0, hi419_0⟩ := at_L2 HR0_1.out x8_3 p419 q419
       cases e419
       replace hx419_0 := (HB.out.cell (World.block_lt_of_cell? w _ hx419_0)).trans hx419_0
       have HR419_0 := Aside0.mk hi419_0
       have HC419_0 := Aside0.mk hl419_0
       clear hi419_0 hl419_0
       replace p419 := eq_true p419
       replace q419 := eq_true q419
       have p420 : 0 ≤ (1 : Int) := (by omega)
       have q420 : 1 < ((rd_L2 l0_1 x8_3).length : Int) := of_decide_eq_true as_
       obtain ⟨ad420, e420, hx420_0⟩ := Zo HR419_0.out 1 p420 q420
       cases e420
       (try simp only [show (1 : Int).toNat = 1 from rfl, Nat.reduceMul, Nat.reduceEqDiff, Go.Addr.add, ↓reduceIte] at hx420_0)
       have qi420 : (1 < (rd_L2 l0_1 x8_3).length) = True := eq_true (by omega)
       (try rw [show ((1 : Int)).toNat = 1 from rfl] at hx420_0)
       replace hx420_0 := (HB.out.cell (World.block_lt_of_cell? w _ hx420_0)).trans hx420_0
       replace p420 := eq_true p420
       replace q420 := eq_true q420
       have p421 : 0 ≤ (x8_3 : Int) := of_decide_eq_true as_
       have q421 : x8_3 < (l0_1.length : Int) := of_decide_eq_true as_
       obtain ⟨ad421, A421_0, c421_0, e421, hx421_0, hl421_0, hi421_0⟩ := at_L2 HR0_1.out x8_3 p421 q421
       obtain rfl : ad419 = ad421 := (by injection e421)
       replace hx421_0 := (HB.out.cell (World.block_lt_of_cell? w _ hx421_0)).trans hx421_0
       have HR421_0 := Aside0.mk hi421_0
       have HC421_0 := Aside0.mk hl421_0
       clear hi421_0 hl421_0
       replace p421 := eq_true p421
       replace q421 := eq_true q421
       have ea_ := Option.some.inj (hx419_0.symm.trans hx421_0)
       injection ea_ with ea_ en_ ec_
       subst ea_
       subst ec_
       clear en_
       have p422 : 0 ≤ (0 : Int) := (by omega)
       have q422 : 0 < ((rd_L2 l0_1 x8_3).length : Int) := of_decide_eq_true as_
       obtain ⟨ad422, e422, hx422_0⟩ := Zo HR421_0.out 0 p422 q422
       cases e422
       have qi422 : (0 < (rd_L2 l0_1 x8_3).length) = True := eq_true (by omega)
       (try rw [show ((0 : Int)).toNat = 0 from rfl] at hx422_0)
       (try rw [Addr.add_zero'] at hx422_0)
       replace hx422_0 := (HB.out.cell (World.block_lt_of_cell? w _ hx422_0)).trans hx422_0
       replace p422 := eq_true p422
       replace q422 := eq_true q422
       go_wp2_with (first | (go_at_call 101; (with_reducible refine (spec_l4Has.calls k3 _ _ l1 (rd (rd_L2 l0_1 x8_3) 0) t423 _ ?side1 ?side2 A20.out).mono ?_); (case side1 => exact cb_ HR1.out); (case side2 => exact HC1.out); rintro e w' ⟨rfl, ⟨nd, rfl⟩⟩))
       go_roundg k3
       case measure => have := HK1.out; have := HJ5.out; have := HK3.out; omega
       case rel => exact ⟨(t423), (wrap64 (x8_3 + 1)), sm_, sm_, H', ⟨by have := HK1.out; have := HJ5.out; have := HK3.out; omega⟩, ⟨rR_ HO_5.out⟩, ⟨bk_ BK414.out⟩, ⟨hB_⟩⟩

/-! ### spec_IsSet: function 135 -/
def spec_IsSet.l0 : Nat → List Int → Int → Int → List (List Int) → Option (Bool)
 | 0, _, _, _, _ => none
 | k + 1, x1, x5, x428000, x428001 => if x5 < (x1.length : Int) then (if 0 ≤ x5 then ((spec_l1In.f (rd x1 x5) 0 (wrap64 (x428000 - 1))).bind fun t430 => (if t430 = true then (if x5 > 0 then (if 0 ≤ (wrap64 (x5 - 1)) then (if (wrap64 (x5 - 1)) < (x1.length : Int) then (if (rd x1 (wrap64 (x5 - 1))) ≥ (rd x1 x5) then (some false) else (spec_IsSet.l0 k x1 (wrap64 (x5 + 1)) x428000 x428001)) else (none)) else (none)) else (spec_IsSet.l0 k x1 (wrap64 (x5 + 1)) x428000 x428001)) else (some false))) else (none)) else (some true)
def spec_IsSet.f (k : Nat) (a0_0 : Int) (l0_1 : List (List Int)) (l1 : List Int) : Option (Bool) := (spec_IsGraph.f k a0_0 l0_1).bind fun t428 => (if t428 = true then (spec_IsSet.l0 k l1 0 a0_0 l0_1) else (some false))
theorem spec_IsSet.mono_l : ∀ k, (∀ y0 y1 y2 y3, LeO (spec_IsSet.l0 k y0 y1 y2 y3) (spec_IsSet.l0 (k + 1) y0 y1 y2 y3))
 | 0 => fun _ _ _ _ r h => by simp [spec_IsSet.l0] at h
 | k + 1 => by
  have ih0 := spec_IsSet.mono_l k
  ·intro y0 y1 y2 y3
   unfold spec_IsSet.l0
   repeat' with_reducible first | apply ih0 | apply spec_IsGraph.mono | apply Zy | apply Zg | refine Zl ?_ ?_ | refine Zh ?_ (fun _ => ?_)
theorem spec_IsSet.mono : ∀ a0 a1 a2 k, LeO (spec_IsSet.f k a0 a1 a2) (spec_IsSet.f (k + 1) a0 a1 a2) := by
 intro a0 a1 a2 k
 have ih0 := spec_IsSet.mono_l k
 unfold spec_IsSet.f
 repeat' with_reducible first | apply ih0 | apply spec_IsGraph.mono | apply Zy | apply Zg | refine Zl ?_ ?_ | refine Zh ?_ (fun _ => ?_)
theorem spec_IsSet.calls (k : Nat) (a0_0 : Int) (A0_1 : Option Addr) (c0_1 : Nat) (l0_1 : List (List Int)) (A1 : Option Addr) (c1 : Nat) (l1 : List Int) (r : Bool) (w : World) (hr0_1 : Kd.C (Kd.slice 3 (Kd.int .i64)) w A0_1 l0_1.length l0_1) (hc0_1 : l0_1.length ≤ c0_1) (hr1 : Kd.C (Kd.int .i64) w A1 l1.length l1) (hc1 : l1.length ≤ c1) (h : spec_IsSet.f k a0_0 l0_1 l1 = some r) :
  Calls Try.prog 135 #[.agg #[.int .i64 a0_0, .slice A0_1 l0_1.length c0_1], .slice A1 l1.length c1] w fun e w' => e = .returned (.bool r) ∧ Below w.heap.size w w' := by
 have hu27 := Try.underlying27
 have HR0_1 := Aside0.mk hr0_1
 have HC0_1 := Aside0.mk hc0_1
 clear hr0_1 hc0_1
 have HR1 := Aside0.mk hr1
 have HC1 := Aside0.mk hc1
 clear hr1 hc1
 have HB := Aside0.mk (Below.refl w.heap.size w)
 have H := h
 unfold spec_IsSet.f at H
 clear h
 obtain ⟨t428, A3, H⟩ := bd_ H
 try dsimp only at H
 by_cases c4 : t428 = true
 rotate_left
 ·replace c4 := Bool.eq_false_iff.mpr c4
  subst c4
  rw [if_neg (show ¬ (false = true) by decide)] at H
  try dsimp only at H
  obtain rfl := Option.some.inj H
  go_enter Try.func135, Try.ntmps135
  go_wp2_with (first | ((with_reducible refine Zz (N := 2) rfl ?_); refine ZI ?hg (N := 2) ?hd (cs := #[.int .i64 a0_0, .slice A0_1 l0_1.length c0_1]) (t := 27) ?hr ?_; (case hd => rfl); (case hg => rfl); (case hr => first | (go_simp; done) | (go_simp; rfl)); intro gb427 hg w21 hbox hb; have BK427 := Aside0.mk (hbox); have GW427 := Aside0.mk ((hz_ hg : w.heap.size ≤ gb427)); have GE427 := Aside0.mk ((hz_ hg : w.heap.size ≤ gb427)); replace HB := Aside0.mk (Zc hB_ hb); clear hb hbox hg; obtain ⟨hcz22_0, hcz22_1, hfz22_0, hfz22_1⟩ := c2_ BK427.out) | (go_at_call 57; (with_reducible refine (spec_IsGraph.calls k a0_0 _ _ l0_1 false _ ?side1 ?side2 A3.out).mono ?_); (case side1 => exact cb_ HR0_1.out); (case side2 => exact HC0_1.out); rintro e w23 ⟨rfl, hb⟩; replace BK427 := Aside0.mk (Zd (bq_ BK427.out) hb); replace HB := Aside0.mk (Zc hB_ hb); (try clear hb)))
  repeat (go_quiet (first | ((with_reducible refine Zz (N := 2) rfl ?_); refine ZI ?hg (N := 2) ?hd (cs := #[.int .i64 a0_0, .slice A0_1 l0_1.length c0_1]) (t := 27) ?hr ?_; (case hd => rfl); (case hg => rfl); (case hr => first | (go_simp; done) | (go_simp; rfl)); intro gb427 hg w21 hbox hb; have BK427 := Aside0.mk (hbox); have GW427 := Aside0.mk ((hz_ hg : w.heap.size ≤ gb427)); have GE427 := Aside0.mk ((hz_ hg : w.heap.size ≤ gb427)); replace HB := Aside0.mk (Zc hB_ hb); clear hb hbox hg; obtain ⟨hcz22_0, hcz22_1, hfz22_0, hfz22_1⟩ := c2_ BK427.out) | (go_at_call 57; (with_reducible refine (spec_IsGraph.calls k a0_0 _ _ l0_1 false _ ?side1 ?side2 A3.out).mono ?_); (case side1 => exact cb_ HR0_1.out); (case side2 => exact HC0_1.out); rintro e w23 ⟨rfl, hb⟩; replace BK427 := Aside0.mk (Zd (bq_ BK427.out) hb); replace HB := Aside0.mk (Zc hB_ hb); (try clear hb))); try go_wp2_with (first | ((with_reducible refine Zz (N := 2) rfl ?_); refine ZI ?hg (N := 2) ?hd (cs := #[.int .i64 a0_0, .slice A0_1 l0_1.length c0_1]) (t := 27) ?hr ?_; (case hd => rfl); (case hg => rfl); (case hr => first | (go_simp; done) | (go_simp; rfl)); intro gb427 hg w21 hbox hb; have BK427 := Aside0.mk (hbox); have GW427 := Aside0.mk ((hz_ hg : w.heap.size ≤ gb427)); have GE427 := Aside0.mk ((hz_ hg : w.heap.size ≤ gb427)); replace HB := Aside0.mk (Zc hB_ hb); clear hb hbox hg; obtain ⟨hcz22_0, hcz22_1, hfz22_0, hfz22_1⟩ := c2_ BK427.out) | (go_at_call 57; (with_reducible refine (spec_IsGraph.calls k a0_0 _ _ l0_1 false _ ?side1 ?side2 A3.out).mono ?_); (case side1 => exact cb_ HR0_1.out); (case side2 => exact HC0_1.out); rintro e w23 ⟨rfl, hb⟩; replace BK427 := Aside0.mk (Zd (bq_ BK427.out) hb); replace HB := Aside0.mk (Zc hB_ hb); (try clear hb))))
  go_ret
  exact ⟨er_, hB_⟩
 subst c4
 rw [if_pos rfl] at H
 try dsimp only at H
 have H' := Aside0.mk H
 clear H
 go_enter Try.func135, Try.ntmps135
 go_wp2_with (first | ((with_reducible refine Zz (N := 2) rfl ?_); refine ZI ?hg (N := 2) ?hd (cs := #[.int .i64 a0_0, .slice A0_1 l0_1.length c0_1]) (t := 27) ?hr ?_; (case hd => rfl); (case hg => rfl); (case hr => first | (go_simp; done) | (go_simp; rfl)); intro gb427 hg w5 hbox hb; have BK427 := Aside0.mk (hbox); have GW427 := Aside0.mk ((hz_ hg : w.heap.size ≤ gb427)); have GE427 := Aside0.mk ((hz_ hg : w.heap.size ≤ gb427)); replace HB := Aside0.mk (Zc hB_ hb); clear hb hbox hg; obtain ⟨hcz6_0, hcz6_1, hfz6_0, hfz6_1⟩ := c2_ BK427.out) | (go_at_call 57; (with_reducible refine (spec_IsGraph.calls k a0_0 _ _ l0_1 true _ ?side1 ?side2 A3.out).mono ?_); (case side1 => exact cb_ HR0_1.out); (case side2 => exact HC0_1.out); rintro e w7 ⟨rfl, hb⟩; replace BK427 := Aside0.mk (Zd (bq_ BK427.out) hb); replace HB := Aside0.mk (Zc hB_ hb); (try clear hb)))
 repeat (go_quiet (first | ((with_reducible refine Zz (N := 2) rfl ?_); refine ZI ?hg (N := 2) ?hd (cs := #[.int .i64 a0_0, .slice A0_1 l0_1.length c0_1]) (t := 27) ?hr ?_; (case hd => rfl); (case hg => rfl); (case hr => first | (go_simp; done) | (go_simp; rfl)); intro gb427 hg w5 hbox hb; have BK427 := Aside0.mk (hbox); have GW427 := Aside0.mk ((hz_ hg : w.heap.size ≤ gb427)); have GE427 := Aside0.mk ((hz_ hg : w.heap.size ≤ gb427)); replace HB := Aside0.mk (Zc hB_ hb); clear hb hbox hg; obtain ⟨hcz6_0, hcz6_1, hfz6_0, hfz6_1⟩ := c2_ BK427.out) | (go_at_call 57; (with_reducible refine (spec_IsGraph.calls k a0_0 _ _ l0_1 true _ ?side1 ?side2 A3.out).mono ?_); (case side1 => exact cb_ HR0_1.out); (case side2 => exact HC0_1.out); rintro e w7 ⟨rfl, hb⟩; replace BK427 := Aside0.mk (Zd (bq_ BK427.out) hb); replace HB := Aside0.mk (Zc hB_ hb); (try clear hb))); try go_wp2_with (first | ((with_reducible refine Zz (N := 2) rfl ?_); refine ZI ?hg (N := 2) ?hd (cs := #[.int .i64 a0_0, .slice A0_1 l0_1.length c0_1]) (t := 27) ?hr ?_; (case hd => rfl); (case hg => rfl); (case hr => first | (go_simp; done) | (go_simp; rfl)); intro gb427 hg w5 hbox hb; have BK427 := Aside0.mk (hbox); have GW427 := Aside0.mk ((hz_ hg : w.heap.size ≤ gb427)); have GE427 := Aside0.mk ((hz_ hg : w.heap.size ≤ gb427)); replace HB := Aside0.mk (Zc hB_ hb); clear hb hbox hg; obtain ⟨hcz6_0, hcz6_1, hfz6_0, hfz6_1⟩ := c2_ BK427.out) | (go_at_call 57; (with_reducible refine (spec_IsGraph.calls k a0_0 _ _ l0_1 true _ ?side1 ?side2 A3.out).mono ?_); (case side1 => exact cb_ HR0_1.out); (case side2 => exact HC0_1.out); rintro e w7 ⟨rfl, hb⟩; replace BK427 := Aside0.mk (Zd (bq_ BK427.out) hb); replace HB := Aside0.mk (Zc hB_ hb); (try clear hb))))
 go_loopg [5] k (fun kq v5 w' => ∃ (x5_1 : Int), v5 = .int .i64 x5_1 ∧ Aside0 (spec_IsSet.l0 kq l1 x5_1 a0_0 l0_1 = some r) ∧ Aside0 (kq ≤ k) ∧ Aside0 (w'.heap[gb427]? = some (.cells #[.int .i64 a0_0, (.slice A0_1 l0_1.length c0_1)] 27 (0, 0))) ∧ Aside0 (Below w.heap.size w w'))
 case atStart => exact ⟨(0), sm_, H', ⟨Nat.le_refl _⟩, ⟨bk_ BK427.out⟩, ⟨hB_⟩⟩
 case round =>
  clear H'
  try clear c1
  try clear p2
  try clear c4
  try clear hcz6_0
  try clear hcz6_1
  try clear hfz6_0
  try clear hfz6_1
  obtain ⟨x5_1, rfl, HA, HK1, BK427, HB⟩ := hrel
  cases gk with
  | zero => exact absurd HA.out (by simp [spec_IsSet.l0])
  | succ k1 =>
   have H := HA.out
   clear HA
   simp only [spec_IsSet.l0] at H
   by_cases c8 : x5_1 < (l1.length : Int)
   rotate_left
   ·rw [if_neg c8] at H
    have c8b0 : decide (x5_1 < (l1.length : Int)) = false := decide_eq_false c8
    clear c8
    obtain rfl := Option.some.inj H
    go_wp2
    repeat (go_quiet (fail); try go_wp2)
    go_ret
    exact ⟨er_, hB_⟩
   rw [if_pos c8] at H
   have c8b0 : decide (x5_1 < (l1.length : Int)) = true := decide_eq_true c8
   clear c8
   by_cases c9 : 0 ≤ x5_1
   rotate_left
   ·rw [if_neg c9] at H
    exact absurd H (by simp)
   rw [if_pos c9] at H
   have c9b0 : decide (0 ≤ x5_1) = true := decide_eq_true c9
   clear c9
   obtain ⟨t430, A10, H⟩ := bd_ H
   try dsimp only at H
   by_cases c11 : t430 = true
   rotate_left
   ·replace c11 := Bool.eq_false_iff.mpr c11
    subst c11
    rw [if_neg (show ¬ (false = true) by decide)] at H
    try dsimp only at H
    obtain rfl := Option.some.inj H
    have p429 : 0 ≤ (x5_1 : Int) := of_decide_eq_true as_
    have q429 : x5_1 < (l1.length : Int) := of_decide_eq_true as_
    obtain ⟨ad429, e429, hx429_0⟩ := Zo HR1.out x5_1 p429 q429
    cases e429
    replace hx429_0 := (HB.out.cell (World.block_lt_of_cell? w _ hx429_0)).trans hx429_0
    replace p429 := eq_true p429
    replace q429 := eq_true q429
    obtain ⟨hcz20_0, hcz20_1, hfz20_0, hfz20_1⟩ := c2_ BK427.out
    go_wp2_with (first | (go_at_call 58; refine calls_of_args (args' := #[.int .i64 (rd l1 x5_1), .int .i64 0, .int .i64 (wrap64 (a0_0 - 1))]) ?harg ?_; (case harg => first | rfl | (simp only [i64_w, i32_w]; rfl) | (simp only [i64_w, i32_w]; done)); (with_reducible refine (spec_l1In.calls (rd l1 x5_1) 0 (wrap64 (a0_0 - 1)) false _ A10.out).mono ?_); rintro e w' ⟨rfl, ⟨nd, rfl⟩⟩; (try first | exact ⟨rfl, _, World.drewN_drewN _ _ _⟩ | exact ⟨rfl, _, Eq.trans (World.drewN_drewN _ _ _) (congrArg (World.drewN _) (Nat.add_assoc _ _ _))⟩)))
    repeat (go_quiet (first | (go_at_call 58; refine calls_of_args (args' := #[.int .i64 (rd l1 x5_1), .int .i64 0, .int .i64 (wrap64 (a0_0 - 1))]) ?harg ?_; (case harg => first | rfl | (simp only [i64_w, i32_w]; rfl) | (simp only [i64_w, i32_w]; done)); (with_reducible refine (spec_l1In.calls (rd l1 x5_1) 0 (wrap64 (a0_0 - 1)) false _ A10.out).mono ?_); rintro e w' ⟨rfl, ⟨nd, rfl⟩⟩; (try first | exact ⟨rfl, _, World.drewN_drewN _ _ _⟩ | exact ⟨rfl, _, Eq.trans (World.drewN_drewN _ _ _) (congrArg (World.drewN _) (Nat.add_assoc _ _ _))⟩))); try go_wp2_with (first | (go_at_call 58; refine calls_of_args (args' := #[.int .i64 (rd l1 x5_1), .int .i64 0, .int .i64 (wrap64 (a0_0 - 1))]) ?harg ?_; (case harg => first | rfl | (simp only [i64_w, i32_w]; rfl) | (simp only [i64_w, i32_w]; done)); (with_reducible refine (spec_l1In.calls (rd l1 x5_1) 0 (wrap64 (a0_0 - 1)) false _ A10.out).mono ?_); rintro e w' ⟨rfl, ⟨nd, rfl⟩⟩; (try first | exact ⟨rfl, _, World.drewN_drewN _ _ _⟩ | exact ⟨rfl, _, Eq.trans (World.drewN_drewN _ _ _) (congrArg (World.drewN _) (Nat.add_assoc _ _ _))⟩))))
    go_ret
    exact ⟨er_, hB_⟩
   subst c11
   rw [if_pos rfl] at H
   try dsimp only at H
   by_cases c12 : x5_1 > 0
   rotate_left
   ·rw [if_neg c12] at H
    have c12b0 : decide (0 < x5_1) = false := decide_eq_false c12
    clear c12
    have H' := Aside0.mk H
    clear H
    have p429 : 0 ≤ (x5_1 : Int) := of_decide_eq_true as_
    have q429 : x5_1 < (l1.length : Int) := of_decide_eq_true as_
    obtain ⟨ad429, e429, hx429_0⟩ := Zo HR1.out x5_1 p429 q429
    cases e429
    replace hx429_0 := (HB.out.cell (World.block_lt_of_cell? w _ hx429_0)).trans hx429_0
    replace p429 := eq_true p429
    replace q429 := eq_true q429
    obtain ⟨hcz19_0, hcz19_1, hfz19_0, hfz19_1⟩ := c2_ BK427.out
    go_wp2_with (first | (go_at_call 58; refine calls_of_args (args' := #[.int .i64 (rd l1 x5_1), .int .i64 0, .int .i64 (wrap64 (a0_0 - 1))]) ?harg ?_; (case harg => first | rfl | (simp only [i64_w, i32_w]; rfl) | (simp only [i64_w, i32_w]; done)); (with_reducible refine (spec_l1In.calls (rd l1 x5_1) 0 (wrap64 (a0_0 - 1)) true _ A10.out).mono ?_); rintro e w' ⟨rfl, ⟨nd, rfl⟩⟩; (try first | exact ⟨rfl, _, World.drewN_drewN _ _ _⟩ | exact ⟨rfl, _, Eq.trans (World.drewN_drewN _ _ _) (congrArg (World.drewN _) (Nat.add_assoc _ _ _))⟩)))
    repeat (go_quiet (first | (go_at_call 58; refine calls_of_args (args' := #[.int .i64 (rd l1 x5_1), .int .i64 0, .int .i64 (wrap64 (a0_0 - 1))]) ?harg ?_; (case harg => first | rfl | (simp only [i64_w, i32_w]; rfl) | (simp only [i64_w, i32_w]; done)); (with_reducible refine (spec_l1In.calls (rd l1 x5_1) 0 (wrap64 (a0_0 - 1)) true _ A10.out).mono ?_); rintro e w' ⟨rfl, ⟨nd, rfl⟩⟩; (try first | exact ⟨rfl, _, World.drewN_drewN _ _ _⟩ | exact ⟨rfl, _, Eq.trans (World.drewN_drewN _ _ _) (congrArg (World.drewN _) (Nat.add_assoc _ _ _))⟩))); try go_wp2_with (first | (go_at_call 58; refine calls_of_args (args' := #[.int .i64 (rd l1 x5_1), .int .i64 0, .int .i64 (wrap64 (a0_0 - 1))]) ?harg ?_; (case harg => first | rfl | (simp only [i64_w, i32_w]; rfl) | (simp only [i64_w, i32_w]; done)); (with_reducible refine (spec_l1In.calls (rd l1 x5_1) 0 (wrap64 (a0_0 - 1)) true _ A10.out).mono ?_); rintro e w' ⟨rfl, ⟨nd, rfl⟩⟩; (try first | exact ⟨rfl, _, World.drewN_drewN _ _ _⟩ | exact ⟨rfl, _, Eq.trans (World.drewN_drewN _ _ _) (congrArg (World.drewN _) (Nat.add_assoc _ _ _))⟩))))
    go_roundg k1
    case measure => have := HK1.out; omega
    case rel => exact ⟨(wrap64 (x5_1 + 1)), sm_, H', ⟨by have := HK1.out; omega⟩, ⟨bk_ BK427.out⟩, ⟨hB_⟩⟩
   rw [if_pos c12] at H
   have c12b0 : decide (0 < x5_1) = true := decide_eq_true c12
   clear c12
   obtain ⟨ji13, hji13⟩ : ∃ j_ : Int, (wrap64 (x5_1 - 1)) = j_ := ⟨_, rfl⟩
   replace H : (if 0 ≤ (ji13) then (if (ji13) < (l1.length : Int) then (if (rd l1 (ji13)) ≥ (rd l1 x5_1) then (some false) else (spec_IsSet.l0 k1 l1 (wrap64 (x5_1 + 1)) a0_0 l0_1)) else (none)) else (none)) = some r := by first | (rw [hji13] at H; exact H) | (simp only [hji13] at H ⊢; exact H)
   (try rw [hji13] at A10)
   have hji13w : (IntKind.i64.wrap (x5_1 - 1)) = ji13 := (i64_w _).trans hji13
   by_cases c14 : 0 ≤ (ji13)
   rotate_left
   ·rw [if_neg c14] at H
    exact absurd H (by simp)
   rw [if_pos c14] at H
   have c14b0 : decide (0 ≤ (ji13)) = true := decide_eq_true c14
   clear c14
   by_cases c15 : (ji13) < (l1.length : Int)
   rotate_left
   ·rw [if_neg c15] at H
    exact absurd H (by simp)
   rw [if_pos c15] at H
   have c15b0 : decide ((ji13) < (l1.length : Int)) = true := decide_eq_true c15
   clear c15
   by_cases c16 : (rd l1 (ji13)) ≥ (rd l1 x5_1)
   ·rw [if_pos c16] at H
    have c16b0 : decide ((rd l1 x5_1) ≤ (rd l1 (ji13))) = true := decide_eq_true c16
    clear c16
    obtain rfl := Option.some.inj H
    have p429 : 0 ≤ (x5_1 : Int) := of_decide_eq_true as_
    have q429 : x5_1 < (l1.length : Int) := of_decide_eq_true as_
    obtain ⟨ad429, e429, hx429_0⟩ := Zo HR1.out x5_1 p429 q429
    cases e429
    replace hx429_0 := (HB.out.cell (World.block_lt_of_cell? w _ hx429_0)).trans hx429_0
    replace p429 := eq_true p429
    replace q429 := eq_true q429
    obtain ⟨hcz17_0, hcz17_1, hfz17_0, hfz17_1⟩ := c2_ BK427.out
    go_wp2_with (first | (go_at_call 58; refine calls_of_args (args' := #[.int .i64 (rd l1 x5_1), .int .i64 0, .int .i64 (wrap64 (a0_0 - 1))]) ?harg ?_; (case harg => first | rfl | (simp only [i64_w, i32_w]; rfl) | (simp only [i64_w, i32_w]; done)); (with_reducible refine (spec_l1In.calls (rd l1 x5_1) 0 (wrap64 (a0_0 - 1)) true _ A10.out).mono ?_); rintro e w' ⟨rfl, ⟨nd, rfl⟩⟩; (try first | exact ⟨rfl, _, World.drewN_drewN _ _ _⟩ | exact ⟨rfl, _, Eq.trans (World.drewN_drewN _ _ _) (congrArg (World.drewN _) (Nat.add_assoc _ _ _))⟩); have p431 : 0 ≤ ((ji13) : Int) := of_decide_eq_true as_; have q431 : (ji13) < (l1.length : Int) := of_decide_eq_true as_; obtain ⟨ad431, e431, hx431_0⟩ := Zo HR1.out (ji13) p431 q431; obtain rfl : ad429 = ad431 := (by injection e431); replace hx431_0 := (HB.out.cell (World.block_lt_of_cell? w _ hx431_0)).trans hx431_0; replace p431 := eq_true p431; replace q431 := eq_true q431; have p432 : 0 ≤ (x5_1 : Int) := of_decide_eq_true as_; have q432 : x5_1 < (l1.length : Int) := of_decide_eq_true as_; obtain ⟨ad432, e432, hx432_0⟩ := Zo HR1.out x5_1 p432 q432; obtain rfl : ad429 = ad432 := (by injection e432); replace hx432_0 := (HB.out.cell (World.block_lt_of_cell? w _ hx432_0)).trans hx432_0; replace p432 := eq_true p432; replace q432 := eq_true q432))
    repeat (go_quiet (first | (go_at_call 58; refine calls_of_args (args' := #[.int .i64 (rd l1 x5_1), .int .i64 0, .int .i64 (wrap64 (a0_0 - 1))]) ?harg ?_; (case harg => first | rfl | (simp only [i64_w, i32_w]; rfl) | (simp only [i64_w, i32_w]; done)); (with_reducible refine (spec_l1In.calls (rd l1 x5_1) 0 (wrap64 (a0_0 - 1)) true _ A10.out).mono ?_); rintro e w' ⟨rfl, ⟨nd, rfl⟩⟩; (try first | exact ⟨rfl, _, World.drewN_drewN _ _ _⟩ | exact ⟨rfl, _, Eq.trans (World.drewN_drewN _ _ _) (congrArg (World.drewN _) (Nat.add_assoc _ _ _))⟩); have p431 : 0 ≤ ((ji13) : Int) := of_decide_eq_true as_; have q431 : (ji13) < (l1.length : Int) := of_decide_eq_true as_; obtain ⟨ad431, e431, hx431_0⟩ := Zo HR1.out (ji13) p431 q431; obtain rfl : ad429 = ad431 := (by injection e431); replace hx431_0 := (HB.out.cell (World.block_lt_of_cell? w _ hx431_0)).trans hx431_0; replace p431 := eq_true p431; replace q431 := eq_true q431; have p432 : 0 ≤ (x5_1 : Int) := of_decide_eq_true as_; have q432 : x5_1 < (l1.length : Int) := of_decide_eq_true as_; obtain ⟨ad432, e432, hx432_0⟩ := Zo HR1.out x5_1 p432 q432; obtain rfl : ad429 = ad432 := (by injection e432); replace hx432_0 := (HB.out.cell (World.block_lt_of_cell? w _ hx432_0)).trans hx432_0; replace p432 := eq_true p432; replace q432 := eq_true q432)); try go_wp2_with (first | (go_at_call 58; refine calls_of_args (args' := #[.int .i64 (rd l1 x5_1), .int .i64 0, .int .i64 (wrap64 (a0_0 - 1))]) ?harg ?_; (case harg => first | rfl | (simp only [i64_w, i32_w]; rfl) | (simp only [i64_w, i32_w]; done)); (with_reducible refine (spec_l1In.calls (rd l1 x5_1) 0 (wrap64 (a0_0 - 1)) true _ A10.out).mono ?_); rintro e w' ⟨rfl, ⟨nd, rfl⟩⟩; (try first | exact ⟨rfl, _, World.drewN_drewN _ _ _⟩ | exact ⟨rfl, _, Eq.trans (World.drewN_drewN _ _ _) (congrArg (World.drewN _) (Nat.add_assoc _ _ _))⟩); have p431 : 0 ≤ ((ji13) : Int) := of_decide_eq_true as_; have q431 : (ji13) < (l1.length : Int) := of_decide_eq_true as_; obtain ⟨ad431, e431, hx431_0⟩ := Zo HR1.out (ji13) p431 q431; obtain rfl : ad429 = ad431 := (by injection e431); replace hx431_0 := (HB.out.cell (World.block_lt_of_cell? w _ hx431_0)).trans hx431_0; replace p431 := eq_true p431; replace q431 := eq_true q431; have p432 : 0 ≤ (x5_1 : Int) := of_decide_eq_true as_; have q432 : x5_1 < (l1.length : Int) := of_decide_eq_true as_; obtain ⟨ad432, e432, hx432_0⟩ := Zo HR1.out x5_1 p432 q432; obtain rfl : ad429 = ad432 := (by injection e432); replace hx432_0 := (HB.out.cell (World.block_lt_of_cell? w _ hx432_0)).trans hx432_0; replace p432 := eq_true p432; replace q432 := eq_true q432)))
    go_ret
    exact ⟨by first | rfl | (simp [errW_none, errW_some] <;> rfl) | (simp only [← hji13]; first | rfl | (simp [errW_none, errW_some] <;> rfl)) | (simp [*, errW_none, errW_some] <;> rfl), hB_⟩
   rw [if_neg c16] at H
   have c16b0 : decide ((rd l1 x5_1) ≤ (rd l1 (ji13))) = false := decide_eq_false c16
   clear c16
   have H' := Aside0.mk H
   clear H
   have p429 : 0 ≤ (x5_1 : Int) := of_decide_eq_true as_
   have q429 : x5_1 < (l1.length : Int) := of_decide_eq_true as_
   obtain ⟨ad429, e429, hx429_0⟩ := Zo HR1.out x5_1 p429 q429
   cases e429
   replace hx429_0 := (HB.out.cell (World.block_lt_of_cell? w _ hx429_0)).trans hx429_0
   replace p429 := eq_true p429
   replace q429 := eq_true q429
   obtain ⟨hcz18_0, hcz18_1, hfz18_0, hfz18_1⟩ := c2_ BK427.out
   go_wp2_with (first | (go_at_call 58; refine calls_of_args (args' := #[.int .i64 (rd l1 x5_1), .int .i64 0, .int .i64 (wrap64 (a0_0 - 1))]) ?harg ?_; (case harg => first | rfl | (simp only [i64_w, i32_w]; rfl) | (simp only [i64_w, i32_w]; done)); (with_reducible refine (spec_l1In.calls (rd l1 x5_1) 0 (wrap64 (a0_0 - 1)) true _ A10.out).mono ?_); rintro e w' ⟨rfl, ⟨nd, rfl⟩⟩; (try first | exact ⟨rfl, _, World.drewN_drewN _ _ _⟩ | exact ⟨rfl, _, Eq.trans (World.drewN_drewN _ _ _) (congrArg (World.drewN _) (Nat.add_assoc _ _ _))⟩); have p431 : 0 ≤ ((ji13) : Int) := of_decide_eq_true as_; have q431 : (ji13) < (l1.length : Int) := of_decide_eq_true as_; obtain ⟨ad431, e431, hx431_0⟩ := Zo HR1.out (ji13) p431 q431; obtain rfl : ad429 = ad431 := (by injection e431); replace hx431_0 := (HB.out.cell (World.block_lt_of_cell? w _ hx431_0)).trans hx431_0; replace p431 := eq_true p431; replace q431 := eq_true q431; have p432 : 0 ≤ (x5_1 : Int) := of_decide_eq_true as_; have q432 : x5_1 < (l1.length : Int) := of_decide_eq_true as_; obtain ⟨ad432, e432, hx432_0⟩ := Zo HR1.out x5_1 p432 q432; obtain rfl : ad429 = ad432 := (by injection e432); replace hx432_0 := (HB.out.cell (World.block_lt_of_cell? w _ hx432_0)).trans hx432_0; replace p432 := eq_true p432; replace q432 := eq_true q432))
   repeat (go_quiet (first | (go_at_call 58; refine calls_of_args (args' := #[.int .i64 (rd l1 x5_1), .int .i64 0, .int .i64 (wrap64 (a0_0 - 1))]) ?harg ?_; (case harg => first | rfl | (simp only [i64_w, i32_w]; rfl) | (simp only [i64_w, i32_w]; done)); (with_reducible refine (spec_l1In.calls (rd l1 x5_1) 0 (wrap64 (a0_0 - 1)) true _ A10.out).mono ?_); rintro e w' ⟨rfl, ⟨nd, rfl⟩⟩; (try first | exact ⟨rfl, _, World.drewN_drewN _ _ _⟩ | exact ⟨rfl, _, Eq.trans (World.drewN_drewN _ _ _) (congrArg (World.drewN _) (Nat.add_assoc _ _ _))⟩); have p431 : 0 ≤ ((ji13) : Int) := of_decide_eq_true as_; have q431 : (ji13) < (l1.length : Int) := of_decide_eq_true as_; obtain ⟨ad431, e431, hx431_0⟩ := Zo HR1.out (ji13) p431 q431; obtain rfl : ad429 = ad431 := (by injection e431); replace hx431_0 := (HB.out.cell (World.block_lt_of_cell? w _ hx431_0)).trans hx431_0; replace p431 := eq_true p431; replace q431 := eq_true q431; have p432 : 0 ≤ (x5_1 : Int) := of_decide_eq_true as_; have q432 : x5_1 < (l1.length : Int) := of_decide_eq_true as_; obtain ⟨ad432, e432, hx432_0⟩ := Zo HR1.out x5_1 p432 q432; obtain rfl : ad429 = ad432 := (by injection e432); replace hx432_0 := (HB.out.cell (World.block_lt_of_cell? w _ hx432_0)).trans hx432_0; replace p432 := eq_true p432; replace q432 := eq_true q432)); try go_wp2_with (first | (go_at_call 58; refine calls_of_args (args' := #[.int .i64 (rd l1 x5_1), .int .i64 0, .int .i64 (wrap64 (a0_0 - 1))]) ?harg ?_; (case harg => first | rfl | (simp only [i64_w, i32_w]; rfl) | (simp only [i64_w, i32_w]; done)); (with_reducible refine (spec_l1In.calls (rd l1 x5_1) 0 (wrap64 (a0_0 - 1)) true _ A10.out).mono ?_); rintro e w' ⟨rfl, ⟨nd, rfl⟩⟩; (try first | exact ⟨rfl, _, World.drewN_drewN _ _ _⟩ | exact ⟨rfl, _, Eq.trans (World.drewN_drewN _ _ _) (congrArg (World.drewN _) (Nat.add_assoc _ _ _))⟩); have p431 : 0 ≤ ((ji13) : Int) := of_decide_eq_true as_; have q431 : (ji13) < (l1.length : Int) := of_decide_eq_true as_; obtain ⟨ad431, e431, hx431_0⟩ := Zo HR1.out (ji13) p431 q431; obtain rfl : ad429 = ad431 := (by injection e431); replace hx431_0 := (HB.out.cell (World.block_lt_of_cell? w _ hx431_0)).trans hx431_0; replace p431 := eq_true p431; replace q431 := eq_true q431; have p432 : 0 ≤ (x5_1 : Int) := of_decide_eq_true as_; have q432 : x5_1 < (l1.length : Int) := of_decide_eq_true as_; obtain ⟨ad432, e432, hx432_0⟩ := Zo HR1.out x5_1 p432 q432; obtain rfl : ad429 = ad432 := (by injection e432); replace hx432_0 := (HB.out.cell (World.block_lt_of_cell? w _ hx432_0)).trans hx432_0; replace p432 := eq_true p432; replace q432 := eq_true q432)))
   go_roundg k1
   case measure => have := HK1.out; omega
   case rel => exact ⟨(wrap64 (x5_1 + 1)), sm_, H', ⟨by have := HK1.out; omega⟩, ⟨bk_ BK427.out⟩, ⟨hB_⟩⟩

/-! ### spec_IsFree: function 111 -/
def spec_IsFree.l0 : Nat → List Int → List Int → Int → Int → List (List Int) → Option (Bool)
 | 0, _, _, _, _, _ => none
 | k + 1, x1, x5, x6, x434000, x434001 => if x6 < (x1.length : Int) then (if 0 ≤ x6 then ((spec_l4Has.f k x5 (rd x1 x6)).bind fun t438 => (if t438 = true then (some false) else (spec_IsFree.l0 k x1 x5 (wrap64 (x6 + 1)) x434000 x434001))) else (none)) else ((spec_IsSet.f k x434000 x434001 x1).bind fun t439 => (some t439))
def spec_IsFree.f (k : Nat) (a0_0 : Int) (l0_1 : List (List Int)) (l1 : List Int) : Option (Bool) := (spec_HitBy.f k a0_0 l0_1 l1).bind fun t434 => (spec_IsFree.l0 k l1 t434 0 a0_0 l0_1)
theorem spec_IsFree.mono_l : ∀ k, (∀ y0 y1 y2 y3 y4, LeO (spec_IsFree.l0 k y0 y1 y2 y3 y4) (spec_IsFree.l0 (k + 1) y0 y1 y2 y3 y4))
 | 0 => fun _ _ _ _ _ r h => by simp [spec_IsFree.l0] at h
 | k + 1 => by
  have ih0 := spec_IsFree.mono_l k
  ·intro y0 y1 y2 y3 y4
   unfold spec_IsFree.l0
   repeat' with_reducible first | apply ih0 | apply spec_HitBy.mono | apply spec_IsSet.mono | apply spec_l4Has.mono | apply Zy | apply Zg | refine Zl ?_ ?_ | refine Zh ?_ (fun _ => ?_)
theorem spec_IsFree.mono : ∀ a0 a1 a2 k, LeO (spec_IsFree.f k a0 a1 a2) (spec_IsFree.f (k + 1) a0 a1 a2) := by
 intro a0 a1 a2 k
 have ih0 := spec_IsFree.mono_l k
 unfold spec_IsFree.f
 repeat' with_reducible first | apply ih0 | apply spec_HitBy.mono | apply spec_IsSet.mono | apply spec_l4Has.mono | apply Zy | apply Zg | refine Zl ?_ ?_ | refine Zh ?_ (fun _ => ?_)
theorem spec_IsFree.calls (k : Nat) (a0_0 : Int) (A0_1 : Option Addr) (c0_1 : Nat) (l0_1 : List (List Int)) (A1 : Option Addr) (c1 : Nat) (l1 : List Int) (r : Bool) (w : World) (hr0_1 : Kd.C (Kd.slice 3 (Kd.int .i64)) w A0_1 l0_1.length l0_1) (hc0_1 : l0_1.length ≤ c0_1) (hr1 : Kd.C (Kd.int .i64) w A1 l1.length l1) (hc1 : l1.length ≤ c1) (h : spec_IsFree.f k a0_0 l0_1 l1 = some r) :
  Calls Try.prog 111 #[.agg #[.int .i64 a0_0, .slice A0_1 l0_1.length c0_1], .slice A1 l1.length c1] w fun e w' => e = .returned (.bool r) ∧ Below w.heap.size w w' := by
 have hu27 := Try.underlying27
 have HR0_1 := Aside0.mk hr0_1
 have HC0_1 := Aside0.mk hc0_1
 clear hr0_1 hc0_1
 have HR1 := Aside0.mk hr1
 have HC1 := Aside0.mk hc1
 clear hr1 hc1
 have HB := Aside0.mk (Below.refl w.heap.size w)
 have H := h
 unfold spec_IsFree.f at H
 clear h
 obtain ⟨t434, A3, H⟩ := bd_ H
 try dsimp only at H
 have H' := Aside0.mk H
 clear H
 go_enter Try.func111, Try.ntmps111
 go_wp2_with (first | ((with_reducible refine Zz (N := 2) rfl ?_); refine ZI ?hg (N := 2) ?hd (cs := #[.int .i64 a0_0, .slice A0_1 l0_1.length c0_1]) (t := 27) ?hr ?_; (case hd => rfl); (case hg => rfl); (case hr => first | (go_simp; done) | (go_simp; rfl)); intro gb433 hg w4 hbox hb; have BK433 := Aside0.mk (hbox); have GW433 := Aside0.mk ((hz_ hg : w.heap.size ≤ gb433)); have GE433 := Aside0.mk ((hz_ hg : w.heap.size ≤ gb433)); replace HB := Aside0.mk (Zc hB_ hb); clear hb hbox hg; obtain ⟨hcz5_0, hcz5_1, hfz5_0, hfz5_1⟩ := c2_ BK433.out) | ((with_reducible refine Zf (f := 134) rfl ?_); refine ZC (some 9) rfl rfl Try.func134 (by kernel_rfl) rfl #[.agg #[.int .i64 a0_0, .slice A0_1 l0_1.length c0_1], .slice A1 l1.length c1] rfl ar_ ?_; (with_reducible refine (spec_HitBy.calls k a0_0 _ _ l0_1 _ _ l1 t434 _ ?side1 ?side2 ?side3 ?side4 A3.out).mono ?_); (case side1 => exact cb_ HR0_1.out); (case side2 => exact HC0_1.out); (case side3 => exact cb_ HR1.out); (case side4 => exact HC1.out); rintro e w6 ⟨v435, rfl, ho0, hb⟩; refine ⟨_, rfl, ?_⟩; have HO436 := Aside0.mk (Kd.R_lower ho0 (Ze hB_)); replace BK433 := Aside0.mk (Zd (bq_ BK433.out) hb); replace HB := Aside0.mk (Zc hB_ hb); (try clear hb); (try clear ho0)))
 go_loopg [6] k (fun kq v6 w' => ∃ (x6_1 : Int), v6 = .int .i64 x6_1 ∧ Aside0 (spec_IsFree.l0 kq l1 t434 x6_1 a0_0 l0_1 = some r) ∧ Aside0 (kq ≤ k) ∧ Aside0 (Kd.R (Kd.int .i64) 3 w' w.heap.size (fun _ => True) v435 t434) ∧ Aside0 (w'.heap[gb433]? = some (.cells #[.int .i64 a0_0, (.slice A0_1 l0_1.length c0_1)] 27 (0, 0))) ∧ Aside0 (Below w.heap.size w w'))
 case atStart => exact ⟨(0), sm_, H', ⟨Nat.le_refl _⟩, ⟨rR_ HO436.out⟩, ⟨bk_ BK433.out⟩, ⟨hB_⟩⟩
 case round =>
  clear H'
  try clear c1
  try clear p2
  try clear hcz5_0
  try clear hcz5_1
  try clear hfz5_0
  try clear hfz5_1
  obtain ⟨x6_1, rfl, HA, HK1, HO_5, BK433, HB⟩ := hrel
  cases gk with
  | zero => exact absurd HA.out (by simp [spec_IsFree.l0])
  | succ k1 =>
   have H := HA.out
   clear HA
   simp only [spec_IsFree.l0] at H
   by_cases c7 : x6_1 < (l1.length : Int)
   rotate_left
   ·rw [if_neg c7] at H
    have c7b0 : decide (x6_1 < (l1.length : Int)) = false := decide_eq_false c7
    clear c7
    obtain ⟨t439, A13, H⟩ := bd_ H
    try dsimp only at H
    obtain rfl := Option.some.inj H
    obtain ⟨hcz14_0, hcz14_1, hfz14_0, hfz14_1⟩ := c2_ BK433.out
    go_wp2_with (first | ((with_reducible refine Zf (f := 135) rfl ?_); refine ZC (some 24) rfl rfl Try.func135 (by kernel_rfl) rfl #[.agg #[.int .i64 a0_0, .slice A0_1 l0_1.length c0_1], .slice A1 l1.length c1] rfl ar_ ?_; (with_reducible refine (spec_IsSet.calls k1 a0_0 _ _ l0_1 _ _ l1 t439 _ ?side1 ?side2 ?side3 ?side4 A13.out).mono ?_); (case side1 => exact cb_ HR0_1.out); (case side2 => exact HC0_1.out); (case side3 => exact cb_ HR1.out); (case side4 => exact HC1.out); rintro e w15 ⟨rfl, hb⟩; refine ⟨_, rfl, ?_⟩; replace HO_5 := Aside0.mk (Kd.R_below (rR_ HO_5.out) hb); replace BK433 := Aside0.mk (Zd (bq_ BK433.out) hb); replace HB := Aside0.mk (Zc hB_ hb); (try clear hb)))
    go_ret
    exact ⟨er_, hB_⟩
   rw [if_pos c7] at H
   have c7b0 : decide (x6_1 < (l1.length : Int)) = true := decide_eq_true c7
   clear c7
   by_cases c8 : 0 ≤ x6_1
   rotate_left
   ·rw [if_neg c8] at H
    exact absurd H (by simp)
   rw [if_pos c8] at H
   have c8b0 : decide (0 ≤ x6_1) = true := decide_eq_true c8
   clear c8
   obtain ⟨t438, A9, H⟩ := bd_ H
   try dsimp only at H
   by_cases c10 : t438 = true
   ·subst c10
    rw [if_pos rfl] at H
    try dsimp only at H
    obtain rfl := Option.some.inj H
    have p437 : 0 ≤ (x6_1 : Int) := of_decide_eq_true as_
    have q437 : x6_1 < (l1.length : Int) := of_decide_eq_true as_
    obtain ⟨ad437, e437, hx437_0⟩ := Zo HR1.out x6_1 p437 q437
    cases e437
    replace hx437_0 := (HB.out.cell (World.block_lt_of_cell? w _ hx437_0)).trans hx437_0
    replace p437 := eq_true p437
    replace q437 := eq_true q437
    obtain ⟨Ao11, co11, eo11⟩ := Kd.R_slice HO_5.out
    subst eo11
    go_wp2_with (first | ((with_reducible refine Zf (f := 101) rfl ?_); refine ZC (some 21) rfl rfl Try.func101 (by kernel_rfl) rfl #[.slice Ao11 t434.length co11, .int .i64 (rd l1 x6_1)] rfl ar_ ?_; (with_reducible refine (spec_l4Has.calls k1 _ _ t434 (rd l1 x6_1) true _ ?side1 ?side2 A9.out).mono ?_); (case side1 => exact sA_ (ZE HO_5.out).2.2); (case side2 => exact (ZE HO_5.out).2.1); rintro e w' ⟨rfl, ⟨nd, rfl⟩⟩; refine ⟨_, rfl, ?_⟩))
    go_ret
    exact ⟨er_, hB_⟩
   replace c10 := Bool.eq_false_iff.mpr c10
   subst c10
   rw [if_neg (show ¬ (false = true) by decide)] at H
   try dsimp only at H
   have H' := Aside0.mk H
   clear H
   have p437 : 0 ≤ (x6_1 : Int) := of_decide_eq_true as_
   have q437 : x6_1 < (l1.length : Int) := of_decide_eq_true as_
   obtain ⟨ad437, e437, hx437_0⟩ := Zo HR1.out x6_1 p437 q437
   cases e437
   replace hx437_0 := (HB.out.cell (World.block_lt_of_cell? w _ hx437_0)).trans hx437_0
   replace p437 := eq_true p437
   replace q437 := eq_true q437
   obtain ⟨Ao12, co12, eo12⟩ := Kd.R_slice HO_5.out
   subst eo12
   go_wp2_with (first | ((with_reducible refine Zf (f := 101) rfl ?_); refine ZC (some 21) rfl rfl Try.func101 (by kernel_rfl) rfl #[.slice Ao12 t434.length co12, .int .i64 (rd l1 x6_1)] rfl ar_ ?_; (with_reducible refine (spec_l4Has.calls k1 _ _ t434 (rd l1 x6_1) false _ ?side1 ?side2 A9.out).mono ?_); (case side1 => exact sA_ (ZE HO_5.out).2.2); (case side2 => exact (ZE HO_5.out).2.1); rintro e w' ⟨rfl, ⟨nd, rfl⟩⟩; refine ⟨_, rfl, ?_⟩))
   go_roundg k1
   case measure => have := HK1.out; omega
   case rel => exact ⟨(wrap64 (x6_1 + 1)), sm_, H', ⟨by have := HK1.out; omega⟩, ⟨rR_ HO_5.out⟩, ⟨bk_ BK433.out⟩, ⟨hB_⟩⟩

end Go.Proofs.Ytdlobolnajcfnaa.PFnPositions
