-- Written by a program of this session (hooks of mine on the print): Lean checks it.
import Derived.Test.YtdlobolnajcfnaaPFnPositionsx0
import Derived.Test.YtdlobolnajcfnaaPFnPositionsx11
import Derived.Test.YtdlobolnajcfnaaPFnPositionsx12
namespace Go.Proofs.Ytdlobolnajcfnaa.PFnPositions
open Go.RowKit Go.Proofs.YtdlobolnajcfnaaW.PrintWords Go.Proofs.YtdlobolnajcfnaaW.PrintLast Go.Proofs.YtdlobolnajcfnaaW.PrintMore
attribute [local go_sem] max2_int min2_int max_two min_two max_three min_three max_four min_four   -- for this text's walks alone
set_option linter.unusedVariables false
set_option linter.unusedSimpArgs false
set_option maxHeartbeats 8000000
set_option maxRecDepth 100000

/-! ### spec_DefendedBy: function 113 -/
mutual
def spec_DefendedBy.l0 : Nat → List Int → List Int → Int → Int → List (List Int) → Option (List Int)
 | 0, _, _, _, _, _ => none
 | k + 1, x1, x5, x6, x466000, x466001 => if x6 < x466000 then ((spec_IsSet.f k x466000 x466001 x1).bind fun t469 => (spec_DefendedBy.j1 k x1 x5 x6 t469 x466000 x466001)) else (spec_DefendedBy.j1 k x1 x5 x6 false x466000 x466001)
def spec_DefendedBy.j1 : Nat → List Int → List Int → Int → Bool → Int → List (List Int) → Option (List Int)
 | 0, _, _, _, _, _, _ => none
 | k + 1, x1, x5, x6, x16, x466000, x466001 => if x16 = true then ((spec_Defends.f k x466000 x466001 x1 x6).bind fun t470 => (if t470 = true then (if x5.length < 17592186044416 then (spec_DefendedBy.l0 k x1 (x5 ++ [x6]) (wrap64 (x6 + 1)) x466000 x466001) else (none)) else (spec_DefendedBy.l0 k x1 x5 (wrap64 (x6 + 1)) x466000 x466001))) else (some x5)
end
def spec_DefendedBy.f (k : Nat) (a0_0 : Int) (l0_1 : List (List Int)) (l1 : List Int) : Option (List Int) := spec_DefendedBy.l0 k l1 (([] : List Int)) 0 a0_0 l0_1
theorem spec_DefendedBy.mono_l : ∀ k, (∀ y0 y1 y2 y3 y4, LeO (spec_DefendedBy.l0 k y0 y1 y2 y3 y4) (spec_DefendedBy.l0 (k + 1) y0 y1 y2 y3 y4)) ∧ (∀ y0 y1 y2 y3 y4 y5, LeO (spec_DefendedBy.j1 k y0 y1 y2 y3 y4 y5) (spec_DefendedBy.j1 (k + 1) y0 y1 y2 y3 y4 y5))
 | 0 => ⟨fun _ _ _ _ _ r h => by simp [spec_DefendedBy.l0] at h, fun _ _ _ _ _ _ r h => by simp [spec_DefendedBy.j1] at h⟩
 | k + 1 => by
  obtain ⟨ih0, ih1⟩ := spec_DefendedBy.mono_l k
  refine ⟨?_, ?_⟩
  ·intro y0 y1 y2 y3 y4
   unfold spec_DefendedBy.l0
   repeat' with_reducible first | apply ih0 | apply ih1 | apply spec_Defends.mono | apply spec_IsSet.mono | apply Zy | apply Zg | refine Zl ?_ ?_ | refine Zh ?_ (fun _ => ?_)
  ·intro y0 y1 y2 y3 y4 y5
   unfold spec_DefendedBy.j1
   repeat' with_reducible first | apply ih0 | apply ih1 | apply spec_Defends.mono | apply spec_IsSet.mono | apply Zy | apply Zg | refine Zl ?_ ?_ | refine Zh ?_ (fun _ => ?_)
theorem spec_DefendedBy.mono : ∀ a0 a1 a2 k, LeO (spec_DefendedBy.f k a0 a1 a2) (spec_DefendedBy.f (k + 1) a0 a1 a2) := by
 intro a0 a1 a2 k
 obtain ⟨ih0, ih1⟩ := spec_DefendedBy.mono_l k
 unfold spec_DefendedBy.f
 repeat' with_reducible first | apply ih0 | apply ih1 | apply spec_Defends.mono | apply spec_IsSet.mono | apply Zy | apply Zg | refine Zl ?_ ?_ | refine Zh ?_ (fun _ => ?_)
theorem spec_DefendedBy.calls (k : Nat) (a0_0 : Int) (A0_1 : Option Addr) (c0_1 : Nat) (l0_1 : List (List Int)) (A1 : Option Addr) (c1 : Nat) (l1 : List Int) (r : List Int) (w : World) (hr0_1 : Kd.C (Kd.slice 3 (Kd.int .i64)) w A0_1 l0_1.length l0_1) (hc0_1 : l0_1.length ≤ c0_1) (hr1 : Kd.C (Kd.int .i64) w A1 l1.length l1) (hc1 : l1.length ≤ c1) (h : spec_DefendedBy.f k a0_0 l0_1 l1 = some r) :
  Calls Try.prog 113 #[.agg #[.int .i64 a0_0, .slice A0_1 l0_1.length c0_1], .slice A1 l1.length c1] w fun e w' => ∃ v0_ : Value, e = .returned (v0_) ∧ Kd.R (Kd.int .i64) 3 w' w.heap.size (fun _ => True) v0_ r ∧ Below w.heap.size w w' := by
 have hu27 := Try.underlying27
 have HR0_1 := Aside0.mk hr0_1
 have HC0_1 := Aside0.mk hc0_1
 clear hr0_1 hc0_1
 have HR1 := Aside0.mk hr1
 have HC1 := Aside0.mk hc1
 clear hr1 hc1
 have HB := Aside0.mk (Below.refl w.heap.size w)
 have H := h
 unfold spec_DefendedBy.f at H
 clear h
 obtain ⟨y466, hy466⟩ : ∃ y_ : List Int, y_ = (([] : List Int)) := ⟨_, rfl⟩
 replace H : (spec_DefendedBy.l0 k l1 y466 0 a0_0 l0_1) = some r := hy_ hy466 H
 have Ny466 := Aside0.mk hy466
 clear hy466
 have H' := Aside0.mk H
 clear H
 go_enter Try.func113, Try.ntmps113
 go_wp2_with (first | ((with_reducible refine Zz (N := 2) rfl ?_); refine ZI ?hg (N := 2) ?hd (cs := #[.int .i64 a0_0, .slice A0_1 l0_1.length c0_1]) (t := 27) ?hr ?_; (case hd => rfl); (case hg => rfl); (case hr => first | (go_simp; done) | (go_simp; rfl)); intro gb465 hg w3 hbox hb; have BK465 := Aside0.mk (hbox); have GW465 := Aside0.mk ((hz_ hg : w.heap.size ≤ gb465)); have GE465 := Aside0.mk ((hz_ hg : w.heap.size ≤ gb465)); replace HB := Aside0.mk (Zc hB_ hb); clear hb hbox hg) | ((with_reducible refine Zz (N := 7) rfl ?_); refine Kd.R_lit (Kd.int .i64) _ 3 ?hg (N := 7) ?hd (xs := ([] : List Int)) (inner := []) (ok := fun _ => True) (okp := fun _ => True) ?hr ?hp (fun _ hk => hk) trivial (Below.refl _ _) (Nat.le_refl _) (by simp) ?_; (case hd => rfl); (case hg => rfl); (case hr => first | (go_simp; done) | (go_simp; rfl)); (case hp => exact (Reps.none _ _)); intro v467 w4 ho5 hb hg_ hnew_; clear hg_ hnew_; (first | rw [← Ny466.out] at ho5 | (simp only [Int.reduceToNat] at ho5; rw [← Ny466.out] at ho5)); have HO468 := Aside0.mk (Kd.R_lower ho5 (Ze hB_)); replace BK465 := Aside0.mk (Zd (bq_ BK465.out) hb); replace HB := Aside0.mk (Zc hB_ hb); clear hb ho5))
 go_loopg [5, 6] k (fun kq v5 v6 w' => ∃ (x5_1 : List Int) (x6_1 : Int), v6 = .int .i64 x6_1 ∧ Aside0 (spec_DefendedBy.l0 kq l1 x5_1 x6_1 a0_0 l0_1 = some r) ∧ Aside0 (kq ≤ k) ∧ Aside0 (Kd.R (Kd.int .i64) 3 w' w.heap.size (fun _ => True) v5 x5_1) ∧ Aside0 (w'.heap[gb465]? = some (.cells #[.int .i64 a0_0, (.slice A0_1 l0_1.length c0_1)] 27 (0, 0))) ∧ Aside0 (Below w.heap.size w w'))
 case atStart => exact ⟨(y466), (0), sm_, H', ⟨Nat.le_refl _⟩, ⟨rR_ HO468.out⟩, ⟨bk_ BK465.out⟩, ⟨hB_⟩⟩
 case round =>
  clear H'
  try clear c1
  try clear p2
  obtain ⟨x5_1, x6_1, rfl, HA, HK1, HO_5, BK465, HB⟩ := hrel
  cases gk with
  | zero => exact absurd HA.out (by simp [spec_DefendedBy.l0])
  | succ k1 =>
   have H := HA.out
   clear HA
   simp only [spec_DefendedBy.l0] at H
   have HC6 := Aside0.mk H
   clear H
   go_upto_region 3 with (fail)
   go_cut [16] (fun v16 wc => ∃ (kq : Nat) (x16_5 : Bool), v16 = .bool x16_5 ∧ Aside0 (spec_DefendedBy.j1 kq l1 x5_1 x6_1 x16_5 a0_0 l0_1 = some r) ∧ Aside0 (kq ≤ k1) ∧ Aside0 (Kd.R (Kd.int .i64) 3 wc w.heap.size (fun _ => True) u5 x5_1) ∧ Aside0 (wc.heap[gb465]? = some (.cells #[.int .i64 a0_0, (.slice A0_1 l0_1.length c0_1)] 27 (0, 0))) ∧ Aside0 (Below w.heap.size w wc))
   case first =>
    have H := HC6.out
    clear HC6
    by_cases c7 : x6_1 < a0_0
    rotate_left
    ·rw [if_neg c7] at H
     have c7b0 : decide (x6_1 < a0_0) = false := decide_eq_false c7
     clear c7
     (first | rw [c7b0] | (simp only [i64_w, i32_w]; rw [c7b0]) | skip)
     have H' := Aside0.mk H
     clear H
     obtain ⟨hcz11_0, hcz11_1, hfz11_0, hfz11_1⟩ := c2_ BK465.out
     go_wp2
     go_meet
     case rel => exact ⟨_, (false), sm_, H', ⟨by have := HK1.out; first | omega | exact Nat.le_refl _⟩, ⟨rR_ HO_5.out⟩, ⟨bk_ BK465.out⟩, ⟨hB_⟩⟩
    rw [if_pos c7] at H
    have c7b0 : decide (x6_1 < a0_0) = true := decide_eq_true c7
    clear c7
    (first | rw [c7b0] | (simp only [i64_w, i32_w]; rw [c7b0]) | skip)
    obtain ⟨t469, A8, H⟩ := bd_ H
    try dsimp only at H
    have H' := Aside0.mk H
    clear H
    obtain ⟨hcz9_0, hcz9_1, hfz9_0, hfz9_1⟩ := c2_ BK465.out
    go_wp2_with (first | (go_at_call 135; (with_reducible refine (spec_IsSet.calls k1 a0_0 _ _ l0_1 _ _ l1 t469 _ ?side1 ?side2 ?side3 ?side4 A8.out).mono ?_); (case side1 => exact cb_ HR0_1.out); (case side2 => exact HC0_1.out); (case side3 => exact cb_ HR1.out); (case side4 => exact HC1.out); rintro e w10 ⟨rfl, hb⟩; replace HO_5 := Aside0.mk (Kd.R_below (rR_ HO_5.out) hb); replace BK465 := Aside0.mk (Zd (bq_ BK465.out) hb); replace HB := Aside0.mk (Zc hB_ hb); (try clear hb)))
    go_meet
    case rel => exact ⟨_, (t469), sm_, H', ⟨by have := HK1.out; first | omega | exact Nat.le_refl _⟩, ⟨rR_ HO_5.out⟩, ⟨bk_ BK465.out⟩, ⟨hB_⟩⟩
   case rest =>
    clear HC6
    try clear c1
    try clear p2
    try clear c7
    try clear c7b0
    try clear c11
    try clear hcz11_0
    try clear hcz11_1
    try clear hcz9_0
    try clear hcz9_1
    try clear hfz11_0
    try clear hfz11_1
    try clear hfz9_0
    try clear hfz9_1
    try clear p2
    obtain ⟨kq, x16_5, rfl, HA, HJ5, HO_5, BK465, HB⟩ := hcut
    cases kq with
    | zero => exact absurd HA.out (by simp [spec_DefendedBy.j1])
    | succ kj5 =>
     have H := HA.out
     clear HA
     simp only [spec_DefendedBy.j1] at H
     by_cases c12 : x16_5 = true
     rotate_left
     ·replace c12 := Bool.eq_false_iff.mpr c12
      subst c12
      rw [if_neg (show ¬ (false = true) by decide)] at H
      try dsimp only at H
      obtain rfl := Option.some.inj H
      go_wp2
      go_ret
      exact ⟨_, er_, rR_ HO_5.out, hB_⟩
     subst c12
     rw [if_pos rfl] at H
     try dsimp only at H
     obtain ⟨t470, A13, H⟩ := bd_ H
     try dsimp only at H
     by_cases c14 : t470 = true
     rotate_left
     ·replace c14 := Bool.eq_false_iff.mpr c14
      subst c14
      rw [if_neg (show ¬ (false = true) by decide)] at H
      try dsimp only at H
      have H' := Aside0.mk H
      clear H
      obtain ⟨hcz19_0, hcz19_1, hfz19_0, hfz19_1⟩ := c2_ BK465.out
      go_wp2_with (first | ((with_reducible refine Zf (f := 136) rfl ?_); refine ZC (some 22) rfl rfl Try.func136 (by kernel_rfl) rfl #[.agg #[.int .i64 a0_0, .slice A0_1 l0_1.length c0_1], .slice A1 l1.length c1, .int .i64 x6_1] rfl ar_ ?_; (with_reducible refine (spec_Defends.calls kj5 a0_0 _ _ l0_1 _ _ l1 x6_1 false _ ?side1 ?side2 ?side3 ?side4 A13.out).mono ?_); (case side1 => exact cb_ HR0_1.out); (case side2 => exact HC0_1.out); (case side3 => exact cb_ HR1.out); (case side4 => exact HC1.out); rintro e w20 ⟨rfl, hb⟩; refine ⟨_, rfl, ?_⟩; replace HO_5 := Aside0.mk (Kd.R_below (rR_ HO_5.out) hb); replace BK465 := Aside0.mk (Zd (bq_ BK465.out) hb); replace HB := Aside0.mk (Zc hB_ hb); (try clear hb)))
      go_roundg kj5
      case measure => have := HK1.out; have := HJ5.out; omega
      case rel => exact ⟨(x5_1), (wrap64 (x6_1 + 1)), sm_, H', ⟨by have := HK1.out; have := HJ5.out; omega⟩, ⟨rR_ HO_5.out⟩, ⟨bk_ BK465.out⟩, ⟨hB_⟩⟩
     subst c14
     rw [if_pos rfl] at H
     try dsimp only at H
     by_cases c15 : x5_1.length < 17592186044416
     rotate_left
     ·rw [if_neg c15] at H
      exact absurd H (by simp)
     rw [if_pos c15] at H
     have LMc15 := Aside0.mk c15
     clear c15
     obtain ⟨y471, hy471⟩ : ∃ y_ : List Int, y_ = (x5_1 ++ [x6_1]) := ⟨_, rfl⟩
     replace H : (spec_DefendedBy.l0 kj5 l1 y471 (wrap64 (x6_1 + 1)) a0_0 l0_1) = some r := hy_ hy471 H
     have Ny471 := Aside0.mk hy471
     clear hy471
     have H' := Aside0.mk H
     clear H
     obtain ⟨hcz16_0, hcz16_1, hfz16_0, hfz16_1⟩ := c2_ BK465.out
     go_wp2_with (first | ((with_reducible refine Zf (f := 136) rfl ?_); refine ZC (some 22) rfl rfl Try.func136 (by kernel_rfl) rfl #[.agg #[.int .i64 a0_0, .slice A0_1 l0_1.length c0_1], .slice A1 l1.length c1, .int .i64 x6_1] rfl ar_ ?_; (with_reducible refine (spec_Defends.calls kj5 a0_0 _ _ l0_1 _ _ l1 x6_1 true _ ?side1 ?side2 ?side3 ?side4 A13.out).mono ?_); (case side1 => exact cb_ HR0_1.out); (case side2 => exact HC0_1.out); (case side3 => exact cb_ HR1.out); (case side4 => exact HC1.out); rintro e w17 ⟨rfl, hb⟩; refine ⟨_, rfl, ?_⟩; replace HO_5 := Aside0.mk (Kd.R_below (rR_ HO_5.out) hb); replace BK465 := Aside0.mk (Zd (bq_ BK465.out) hb); replace HB := Aside0.mk (Zc hB_ hb); (try clear hb); (try clear hk)) | ((with_reducible refine gate_builtin (b := .append) (xs := #[.tmp 23, .tmp 25]) rfl ?_); at_builtin; refine Kd.R_append (Kd.int .i64) (w0 := w) w.heap.size rfl (.tmp 23) (.tmp 25) 31 3 (.int .i64 0) 8 rfl Try.underlying31 info3 rfl (by decide) (by omega) u5 x5_1 x6_1 [.int .i64 x6_1] (fun _ => True) (fun _ => False) rfl rfl ?aP (fun _ hk => hk.elim) ?aF ?aO ?aB ?aS ?aL ?_; (case aP => exact rfl); (case aB => exact hB_); (case aF => exact (fun _ _ => trivial)); (case aO => exact (rR_ HO_5.out)); (case aS => exact (Ze hB_)); (case aL => have := LMc15.out; omega); intro v472 w18 ho hb hg hat; rw [← Ny471.out] at ho; have n0_ := Aside0.mk (ZJ (bq_ BK465.out) hg (Kd.R_ne HO_5.out BK465.out (by decide))); have n1_ := Aside0.mk (hb); have n2_ := Aside0.mk (ho); clear BK465; clear HB; clear HO_5; have BK465 := n0_; have HB := n1_; have HO473 := n2_; clear n0_ n1_ n2_; clear ho hb hg hat))
     go_roundg kj5
     case measure => have := HK1.out; have := HJ5.out; omega
     case rel => exact ⟨(y471), (wrap64 (x6_1 + 1)), sm_, H', ⟨by have := HK1.out; have := HJ5.out; omega⟩, ⟨rR_ HO473.out⟩, ⟨bk_ BK465.out⟩, ⟨hB_⟩⟩

/-! ### spec_IsComplete: function 68 -/
def spec_IsComplete.f (k : Nat) (a0_0 : Int) (l0_1 : List (List Int)) (l1 : List Int) : Option (Bool) := (spec_IsFree.f k a0_0 l0_1 l1).bind fun t475 => (if t475 = true then ((spec_DefendedBy.f k a0_0 l0_1 l1).bind fun t476 => ((spec_EqualInts.f k t476 l1).bind fun t479 => (some t479))) else (some false))
theorem spec_IsComplete.mono : ∀ a0 a1 a2 k, LeO (spec_IsComplete.f k a0 a1 a2) (spec_IsComplete.f (k + 1) a0 a1 a2) := by
 intro a0 a1 a2 k
 unfold spec_IsComplete.f
 repeat' with_reducible first | apply spec_DefendedBy.mono | apply spec_EqualInts.mono | apply spec_IsFree.mono | apply Zy | apply Zg | refine Zl ?_ ?_ | refine Zh ?_ (fun _ => ?_)
theorem spec_IsComplete.calls (k : Nat) (a0_0 : Int) (A0_1 : Option Addr) (c0_1 : Nat) (l0_1 : List (List Int)) (A1 : Option Addr) (c1 : Nat) (l1 : List Int) (r : Bool) (w : World) (hr0_1 : Kd.C (Kd.slice 3 (Kd.int .i64)) w A0_1 l0_1.length l0_1) (hc0_1 : l0_1.length ≤ c0_1) (hr1 : Kd.C (Kd.int .i64) w A1 l1.length l1) (hc1 : l1.length ≤ c1) (h : spec_IsComplete.f k a0_0 l0_1 l1 = some r) :
  Calls Try.prog 68 #[.agg #[.int .i64 a0_0, .slice A0_1 l0_1.length c0_1], .slice A1 l1.length c1] w fun e w' => e = .returned (.bool r) ∧ Below w.heap.size w w' := by
 have hu27 := Try.underlying27
 have HR0_1 := Aside0.mk hr0_1
 have HC0_1 := Aside0.mk hc0_1
 clear hr0_1 hc0_1
 have HR1 := Aside0.mk hr1
 have HC1 := Aside0.mk hc1
 clear hr1 hc1
 have HB := Aside0.mk (Below.refl w.heap.size w)
 have H := h
 unfold spec_IsComplete.f at H
 clear h
 obtain ⟨t475, A3, H⟩ := bd_ H
 try dsimp only at H
 by_cases c4 : t475 = true
 rotate_left
 ·replace c4 := Bool.eq_false_iff.mpr c4
  subst c4
  rw [if_neg (show ¬ (false = true) by decide)] at H
  try dsimp only at H
  obtain rfl := Option.some.inj H
  go_enter Try.func68, Try.ntmps68
  go_wp2_with (first | ((with_reducible refine Zz (N := 2) rfl ?_); refine ZI ?hg (N := 2) ?hd (cs := #[.int .i64 a0_0, .slice A0_1 l0_1.length c0_1]) (t := 27) ?hr ?_; (case hd => rfl); (case hg => rfl); (case hr => first | (go_simp; done) | (go_simp; rfl)); intro gb474 hg w13 hbox hb; have BK474 := Aside0.mk (hbox); have GW474 := Aside0.mk ((hz_ hg : w.heap.size ≤ gb474)); have GE474 := Aside0.mk ((hz_ hg : w.heap.size ≤ gb474)); replace HB := Aside0.mk (Zc hB_ hb); clear hb hbox hg; obtain ⟨hcz14_0, hcz14_1, hfz14_0, hfz14_1⟩ := c2_ BK474.out) | ((with_reducible refine Zf (f := 111) rfl ?_); refine ZC (some 7) rfl rfl Try.func111 (by kernel_rfl) rfl #[.agg #[.int .i64 a0_0, .slice A0_1 l0_1.length c0_1], .slice A1 l1.length c1] rfl ar_ ?_; (with_reducible refine (spec_IsFree.calls k a0_0 _ _ l0_1 _ _ l1 false _ ?side1 ?side2 ?side3 ?side4 A3.out).mono ?_); (case side1 => exact cb_ HR0_1.out); (case side2 => exact HC0_1.out); (case side3 => exact cb_ HR1.out); (case side4 => exact HC1.out); rintro e w15 ⟨rfl, hb⟩; refine ⟨_, rfl, ?_⟩; replace BK474 := Aside0.mk (Zd (bq_ BK474.out) hb); replace HB := Aside0.mk (Zc hB_ hb); (try clear hb)))
  go_ret
  exact ⟨er_, hB_⟩
 subst c4
 rw [if_pos rfl] at H
 try dsimp only at H
 obtain ⟨t476, A5, H⟩ := bd_ H
 try dsimp only at H
 obtain ⟨t479, A6, H⟩ := bd_ H
 try dsimp only at H
 obtain rfl := Option.some.inj H
 go_enter Try.func68, Try.ntmps68
 go_wp2_with (first | ((with_reducible refine Zz (N := 2) rfl ?_); refine ZI ?hg (N := 2) ?hd (cs := #[.int .i64 a0_0, .slice A0_1 l0_1.length c0_1]) (t := 27) ?hr ?_; (case hd => rfl); (case hg => rfl); (case hr => first | (go_simp; done) | (go_simp; rfl)); intro gb474 hg w7 hbox hb; have BK474 := Aside0.mk (hbox); have GW474 := Aside0.mk ((hz_ hg : w.heap.size ≤ gb474)); have GE474 := Aside0.mk ((hz_ hg : w.heap.size ≤ gb474)); replace HB := Aside0.mk (Zc hB_ hb); clear hb hbox hg; obtain ⟨hcz8_0, hcz8_1, hfz8_0, hfz8_1⟩ := c2_ BK474.out) | ((with_reducible refine Zf (f := 111) rfl ?_); refine ZC (some 7) rfl rfl Try.func111 (by kernel_rfl) rfl #[.agg #[.int .i64 a0_0, .slice A0_1 l0_1.length c0_1], .slice A1 l1.length c1] rfl ar_ ?_; (with_reducible refine (spec_IsFree.calls k a0_0 _ _ l0_1 _ _ l1 true _ ?side1 ?side2 ?side3 ?side4 A3.out).mono ?_); (case side1 => exact cb_ HR0_1.out); (case side2 => exact HC0_1.out); (case side3 => exact cb_ HR1.out); (case side4 => exact HC1.out); rintro e w9 ⟨rfl, hb⟩; refine ⟨_, rfl, ?_⟩; replace BK474 := Aside0.mk (Zd (bq_ BK474.out) hb); replace HB := Aside0.mk (Zc hB_ hb); (try clear hb); obtain ⟨hcz10_0, hcz10_1, hfz10_0, hfz10_1⟩ := c2_ BK474.out) | (go_at_call 113; (with_reducible refine (spec_DefendedBy.calls k a0_0 _ _ l0_1 _ _ l1 t476 _ ?side1 ?side2 ?side3 ?side4 A5.out).mono ?_); (case side1 => exact cb_ HR0_1.out); (case side2 => exact HC0_1.out); (case side3 => exact cb_ HR1.out); (case side4 => exact HC1.out); rintro e w11 ⟨v477, rfl, ho0, hb⟩; have HO478 := Aside0.mk (Kd.R_lower ho0 (Ze hB_)); replace BK474 := Aside0.mk (Zd (bq_ BK474.out) hb); replace HB := Aside0.mk (Zc hB_ hb); (try clear hb); (try clear ho0); obtain ⟨Ao12, co12, eo12⟩ := Kd.R_slice HO478.out; subst eo12) | (go_at_call 112; (with_reducible refine (spec_EqualInts.calls k _ _ t476 _ _ l1 t479 _ ?side1 ?side2 ?side3 ?side4 A6.out).mono ?_); (case side1 => exact sA_ (ZE HO478.out).2.2); (case side2 => exact (ZE HO478.out).2.1); (case side3 => exact cb_ HR1.out); (case side4 => exact HC1.out); rintro e w' ⟨rfl, ⟨nd, rfl⟩⟩))
 go_ret
 exact ⟨er_, hB_⟩

/-! ### spec_l7Before: function 69 -/
mutual
def spec_l7Before.l0 : Nat → List Int → List Int → Int → Option (Bool)
 | 0, _, _, _ => none
 | k + 1, x0, x1, x5 => if x5 < (x0.length : Int) then (spec_l7Before.j1 k x0 x1 x5 (decide (x5 < (x1.length : Int)))) else (spec_l7Before.j1 k x0 x1 x5 false)
def spec_l7Before.j1 : Nat → List Int → List Int → Int → Bool → Option (Bool)
 | 0, _, _, _, _ => none
 | k + 1, x0, x1, x5, x15 => if x15 = true then (if 0 ≤ x5 then (if x5 < (x0.length : Int) then (if x5 < (x1.length : Int) then (if (rd x0 x5) = (rd x1 x5) then (spec_l7Before.l0 k x0 x1 (wrap64 (x5 + 1))) else (some (decide ((rd x0 x5) < (rd x1 x5))))) else (none)) else (none)) else (none)) else (some (decide ((x0.length : Int) < (x1.length : Int))))
end
def spec_l7Before.f (k : Nat) (l0 : List Int) (l1 : List Int) : Option (Bool) := spec_l7Before.l0 k l0 l1 0
theorem spec_l7Before.mono_l : ∀ k, (∀ y0 y1 y2, LeO (spec_l7Before.l0 k y0 y1 y2) (spec_l7Before.l0 (k + 1) y0 y1 y2)) ∧ (∀ y0 y1 y2 y3, LeO (spec_l7Before.j1 k y0 y1 y2 y3) (spec_l7Before.j1 (k + 1) y0 y1 y2 y3))
 | 0 => ⟨fun _ _ _ r h => by simp [spec_l7Before.l0] at h, fun _ _ _ _ r h => by simp [spec_l7Before.j1] at h⟩
 | k + 1 => by
  obtain ⟨ih0, ih1⟩ := spec_l7Before.mono_l k
  refine ⟨?_, ?_⟩
  ·intro y0 y1 y2
   unfold spec_l7Before.l0
   repeat' with_reducible first | apply ih0 | apply ih1 | apply Zy | apply Zg | refine Zl ?_ ?_ | refine Zh ?_ (fun _ => ?_)
  ·intro y0 y1 y2 y3
   unfold spec_l7Before.j1
   repeat' with_reducible first | apply ih0 | apply ih1 | apply Zy | apply Zg | refine Zl ?_ ?_ | refine Zh ?_ (fun _ => ?_)
theorem spec_l7Before.mono : ∀ a0 a1 k, LeO (spec_l7Before.f k a0 a1) (spec_l7Before.f (k + 1) a0 a1) := by
 intro a0 a1 k
 obtain ⟨ih0, ih1⟩ := spec_l7Before.mono_l k
 unfold spec_l7Before.f
 repeat' with_reducible first | apply ih0 | apply ih1 | apply Zy | apply Zg | refine Zl ?_ ?_ | refine Zh ?_ (fun _ => ?_)
theorem spec_l7Before.calls (k : Nat) (A0 : Option Addr) (c0 : Nat) (l0 : List Int) (A1 : Option Addr) (c1 : Nat) (l1 : List Int) (r : Bool) (w : World) (hr0 : Kd.C (Kd.int .i64) w A0 l0.length l0) (hc0 : l0.length ≤ c0) (hr1 : Kd.C (Kd.int .i64) w A1 l1.length l1) (hc1 : l1.length ≤ c1) (h : spec_l7Before.f k l0 l1 = some r) :
  Calls Try.prog 69 #[.slice A0 l0.length c0, .slice A1 l1.length c1] w fun e w' => e = .returned (.bool r) ∧ Drawn0 w w' := by
 have HR0 := Aside0.mk hr0
 have HC0 := Aside0.mk hc0
 clear hr0 hc0
 have HR1 := Aside0.mk hr1
 have HC1 := Aside0.mk hc1
 clear hr1 hc1
 have H := h
 unfold spec_l7Before.f at H
 clear h
 have H' := Aside0.mk H
 clear H
 go_enter Try.func69, Try.ntmps69
 go_wp2
 repeat (go_quiet (fail); try go_wp2)
 go_loopg [5] k (fun kq v5 w' => ∃ (x5_1 : Int), v5 = .int .i64 x5_1 ∧ Aside0 (spec_l7Before.l0 kq l0 l1 x5_1 = some r) ∧ Aside0 (kq ≤ k) ∧ Drawn0 w w')
 case atStart => exact ⟨(0), sm_, H', ⟨Nat.le_refl _⟩, dr_⟩
 case round =>
  clear H'
  try clear c1
  try clear p2
  obtain ⟨x5_1, rfl, HA, HK1, ⟨m1, rfl⟩⟩ := hrel
  cases gk with
  | zero => exact absurd HA.out (by simp [spec_l7Before.l0])
  | succ k1 =>
   have H := HA.out
   clear HA
   simp only [spec_l7Before.l0] at H
   have HC3 := Aside0.mk H
   clear H
   go_upto_region 2 with (fail)
   repeat (go_quiet (fail); go_upto_region 2 with (fail))
   go_cut [15] (fun v15 wc => ∃ (kq : Nat) (x15_2 : Bool), v15 = .bool x15_2 ∧ Aside0 (spec_l7Before.j1 kq l0 l1 x5_1 x15_2 = some r) ∧ Aside0 (kq ≤ k1) ∧ Drawn0 w wc)
   case first =>
    have H := HC3.out
    clear HC3
    by_cases c4 : x5_1 < (l0.length : Int)
    ·rw [if_pos c4] at H
     have c4b0 : decide (x5_1 < (l0.length : Int)) = true := decide_eq_true c4
     clear c4
     (first | rw [c4b0] | (simp only [i64_w, i32_w]; rw [c4b0]) | skip)
     have H' := Aside0.mk H
     clear H
     go_wp2
     repeat (go_quiet (fail); try go_wp2)
     go_meet
     case rel => exact ⟨_, (decide (x5_1 < (l1.length : Int))), sm_, H', ⟨by have := HK1.out; first | omega | exact Nat.le_refl _⟩, dr_⟩
    rw [if_neg c4] at H
    have c4b0 : decide (x5_1 < (l0.length : Int)) = false := decide_eq_false c4
    clear c4
    (first | rw [c4b0] | (simp only [i64_w, i32_w]; rw [c4b0]) | skip)
    have H' := Aside0.mk H
    clear H
    go_wp2
    repeat (go_quiet (fail); try go_wp2)
    go_meet
    case rel => exact ⟨_, (false), sm_, H', ⟨by have := HK1.out; first | omega | exact Nat.le_refl _⟩, dr_⟩
   case rest =>
    clear HC3
    try clear c1
    try clear p2
    try clear c4
    try clear c4b0
    try clear p2
    obtain ⟨kq, x15_2, rfl, HA, HJ2, ⟨mc2, rfl⟩⟩ := hcut
    cases kq with
    | zero => exact absurd HA.out (by simp [spec_l7Before.j1])
    | succ kj2 =>
     have H := HA.out
     clear HA
     simp only [spec_l7Before.j1] at H
     by_cases c5 : x15_2 = true
     rotate_left
     ·replace c5 := Bool.eq_false_iff.mpr c5
      subst c5
      rw [if_neg (show ¬ (false = true) by decide)] at H
      try dsimp only at H
      obtain rfl := Option.some.inj H
      go_wp2
      repeat (go_quiet (fail); try go_wp2)
      go_ret
      exact ⟨sm_, dr_⟩
     subst c5
     rw [if_pos rfl] at H
     try dsimp only at H
     by_cases c6 : 0 ≤ x5_1
     rotate_left
     ·rw [if_neg c6] at H
      exact absurd H (by simp)
     rw [if_pos c6] at H
     have c6b0 : decide (0 ≤ x5_1) = true := decide_eq_true c6
     clear c6
     by_cases c7 : x5_1 < (l0.length : Int)
     rotate_left
     ·rw [if_neg c7] at H
      exact absurd H (by simp)
     rw [if_pos c7] at H
     have c7b0 : decide (x5_1 < (l0.length : Int)) = true := decide_eq_true c7
     clear c7
     by_cases c8 : x5_1 < (l1.length : Int)
     rotate_left
     ·rw [if_neg c8] at H
      exact absurd H (by simp)
     rw [if_pos c8] at H
     have c8b0 : decide (x5_1 < (l1.length : Int)) = true := decide_eq_true c8
     clear c8
     by_cases c9 : (rd l0 x5_1) = (rd l1 x5_1)
     ·rw [if_pos c9] at H
      have c9b0 : ((rd l0 x5_1) == (rd l1 x5_1)) = true := beq_iff_eq.mpr c9
      have c9b1 : ((rd l0 x5_1) != (rd l1 x5_1)) = false := bne_eq_false_iff_eq.mpr c9
      clear c9
      have H' := Aside0.mk H
      clear H
      have p480 : 0 ≤ (x5_1 : Int) := of_decide_eq_true as_
      have q480 : x5_1 < (l0.length : Int) := of_decide_eq_true as_
      obtain ⟨ad480, e480, hx480_0⟩ := Zo HR0.out x5_1 p480 q480
      cases e480
      replace p480 := eq_true p480
      replace q480 := eq_true q480
      have p481 : 0 ≤ (x5_1 : Int) := of_decide_eq_true as_
      have q481 : x5_1 < (l1.length : Int) := of_decide_eq_true as_
      obtain ⟨ad481, e481, hx481_0⟩ := Zo HR1.out x5_1 p481 q481
      cases e481
      replace p481 := eq_true p481
      replace q481 := eq_true q481
      go_wp2
      repeat (go_quiet (fail); try go_wp2)
      go_roundg kj2
      case measure => have := HK1.out; have := HJ2.out; omega
      case rel => exact ⟨(wrap64 (x5_1 + 1)), sm_, H', ⟨by have := HK1.out; have := HJ2.out; omega⟩, dr_⟩
     rw [if_neg c9] at H
     have c9b0 : ((rd l0 x5_1) == (rd l1 x5_1)) = false := beq_eq_false_iff_ne.mpr c9
     have c9b1 : ((rd l0 x5_1) != (rd l1 x5_1)) = true := bne_iff_ne.mpr c9
     obtain rfl := Option.some.inj H
     have p480 : 0 ≤ (x5_1 : Int) := of_decide_eq_true as_
     have q480 : x5_1 < (l0.length : Int) := of_decide_eq_true as_
     obtain ⟨ad480, e480, hx480_0⟩ := Zo HR0.out x5_1 p480 q480
     cases e480
     replace p480 := eq_true p480
     replace q480 := eq_true q480
     have p481 : 0 ≤ (x5_1 : Int) := of_decide_eq_true as_
     have q481 : x5_1 < (l1.length : Int) := of_decide_eq_true as_
     obtain ⟨ad481, e481, hx481_0⟩ := Zo HR1.out x5_1 p481 q481
     cases e481
     replace p481 := eq_true p481
     replace q481 := eq_true q481
     have p482 : 0 ≤ (x5_1 : Int) := of_decide_eq_true as_
     have q482 : x5_1 < (l0.length : Int) := of_decide_eq_true as_
     obtain ⟨ad482, e482, hx482_0⟩ := Zo HR0.out x5_1 p482 q482
     obtain rfl : ad480 = ad482 := (by injection e482)
     replace p482 := eq_true p482
     replace q482 := eq_true q482
     have p483 : 0 ≤ (x5_1 : Int) := of_decide_eq_true as_
     have q483 : x5_1 < (l1.length : Int) := of_decide_eq_true as_
     obtain ⟨ad483, e483, hx483_0⟩ := Zo HR1.out x5_1 p483 q483
     obtain rfl : ad481 = ad483 := (by injection e483)
     replace p483 := eq_true p483
     replace q483 := eq_true q483
     go_wp2
     repeat (go_quiet (fail); try go_wp2)
     go_ret
     exact ⟨sm_, dr_⟩

end Go.Proofs.Ytdlobolnajcfnaa.PFnPositions
