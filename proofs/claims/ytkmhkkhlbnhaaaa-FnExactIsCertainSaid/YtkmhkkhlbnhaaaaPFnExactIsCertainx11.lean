-- Written by a program of this session (hooks of mine on the print): Lean checks it.
import Derived.Test.YtkmhkkhlbnhaaaaPFnExactIsCertainx0
import Derived.Test.YtkmhkkhlbnhaaaaPFnExactIsCertainx7
import Derived.Test.YtkmhkkhlbnhaaaaPFnExactIsCertainx8
import Derived.Test.YtkmhkkhlbnhaaaaPFnExactIsCertainx9
import Derived.Test.YtkmhkkhlbnhaaaaPFnExactIsCertainx10
namespace Go.Proofs.Ytkmhkkhlbnhaaaa.PFnExactIsCertain
open Go.RowKit Go.Proofs.YtkmhkkhlbnhaaaaW.PrintWords Go.Proofs.YtkmhkkhlbnhaaaaW.PrintLast Go.Proofs.YtkmhkkhlbnhaaaaW.PrintMore
attribute [local go_sem] max2_int min2_int max_two min_two max_three min_three max_four min_four   -- for this text's walks alone
set_option linter.unusedVariables false
set_option linter.unusedSimpArgs false

/-! ### impl_DefendedBy: function 89 -/
def impl_DefendedBy.l0 : Nat → List Int → List Int → Int → Int → Int → List (List Int) → Option (List Int)
 | 0, _, _, _, _, _, _ => none
 | k + 1, x1, x5, x14, x15, x394000, x394001 => if x15 < x14 then ((impl_Defends.f k x394000 x394001 x1 x15).bind fun t398 => (if t398 = true then (if x5.length < 17592186044416 then (impl_DefendedBy.l0 k x1 (x5 ++ [x15]) x14 (wrap64 (x15 + 1)) x394000 x394001) else (none)) else (impl_DefendedBy.l0 k x1 x5 x14 (wrap64 (x15 + 1)) x394000 x394001))) else (some x5)
def impl_DefendedBy.f (k : Nat) (a0_0 : Int) (l0_1 : List (List Int)) (l1 : List Int) : Option (List Int) := (some (([] : List Int) : List Int)).bind fun y394 => ((impl_IsSet.f k a0_0 l0_1 l1).bind fun t397 => (if t397 = true then (impl_DefendedBy.l0 k l1 y394 a0_0 0 a0_0 l0_1) else (some y394)))
theorem impl_DefendedBy.mono_l : ∀ k, (∀ y0 y1 y2 y3 y4 y5, LeO (impl_DefendedBy.l0 k y0 y1 y2 y3 y4 y5) (impl_DefendedBy.l0 (k + 1) y0 y1 y2 y3 y4 y5))
 | 0 => fun _ _ _ _ _ _ r h => by simp [impl_DefendedBy.l0] at h
 | k + 1 => by
  have ih0 := impl_DefendedBy.mono_l k
  ·intro y0 y1 y2 y3 y4 y5
   unfold impl_DefendedBy.l0
   repeat' first
   | (with_reducible exact ih0 _ _ _ _ _ _)
   | (with_reducible exact impl_Defends.mono _ _ _ _ _)
   | (with_reducible exact impl_IsSet.mono _ _ _ _)
   | (with_reducible exact Zs _)
   | (with_reducible exact Zg _)
   | (with_reducible refine Zn ?_ ?_)
   | (with_reducible refine Zh ?_ (fun _ => ?_))
   | exact ih0 _ _ _ _ _ _
   | exact impl_Defends.mono _ _ _ _ _
   | exact impl_IsSet.mono _ _ _ _
   | exact Zg _
   | refine Zn ?_ ?_
   | refine Zh ?_ (fun _ => ?_)
theorem impl_DefendedBy.mono : ∀ a0 a1 a2 k, LeO (impl_DefendedBy.f k a0 a1 a2) (impl_DefendedBy.f (k + 1) a0 a1 a2) := by
 intro a0 a1 a2 k
 have ih0 := impl_DefendedBy.mono_l k
 unfold impl_DefendedBy.f
 repeat' first
   | (with_reducible exact ih0 _ _ _ _ _ _)
   | (with_reducible exact impl_Defends.mono _ _ _ _ _)
   | (with_reducible exact impl_IsSet.mono _ _ _ _)
   | (with_reducible exact Zs _)
   | (with_reducible exact Zg _)
   | (with_reducible refine Zn ?_ ?_)
   | (with_reducible refine Zh ?_ (fun _ => ?_))
   | exact ih0 _ _ _ _ _ _
   | exact impl_Defends.mono _ _ _ _ _
   | exact impl_IsSet.mono _ _ _ _
   | exact Zg _
   | refine Zn ?_ ?_
   | refine Zh ?_ (fun _ => ?_)
set_option maxHeartbeats 8000000 in
set_option maxRecDepth 100000 in
theorem impl_DefendedBy.calls (k : Nat) (a0_0 : Int) (A0_1 : Option Addr) (c0_1 : Nat) (l0_1 : List (List Int)) (A1 : Option Addr) (c1 : Nat) (l1 : List Int) (r : List Int) (w : World) (hr0_1 : Kd.C (Kd.slice 3 (Kd.int .i64)) w A0_1 l0_1.length l0_1) (hc0_1 : l0_1.length ≤ c0_1) (hr1 : Kd.C (Kd.int .i64) w A1 l1.length l1) (hc1 : l1.length ≤ c1) (h : impl_DefendedBy.f k a0_0 l0_1 l1 = some r) :
  Calls Try.prog 89 #[.agg #[.int .i64 a0_0, .slice A0_1 l0_1.length c0_1], .slice A1 l1.length c1] w fun e w' => ∃ v0_ : Value, e = .returned (v0_) ∧ Kd.R (Kd.int .i64) 3 w' w.heap.size (fun _ => True) v0_ r ∧ Below w.heap.size w w' := by
 have hu27 := Try.underlying27
 have HR0_1 := Aside0.mk hr0_1
 have HC0_1 := Aside0.mk hc0_1
 clear hr0_1 hc0_1
 have HR1 := Aside0.mk hr1
 have HC1 := Aside0.mk hc1
 clear hr1 hc1
 have HB := Aside0.mk (Below.refl w.heap.size w)
 have H : ((some (([] : List Int) : List Int)).bind fun y394 => ((impl_IsSet.f k a0_0 l0_1 l1).bind fun t397 => (if t397 = true then (impl_DefendedBy.l0 k l1 y394 a0_0 0 a0_0 l0_1) else (some y394)))) = some r := h
 clear h
 obtain ⟨y394, hy394⟩ : ∃ y_ : List Int, y_ = (([] : List Int)) := ⟨_, rfl⟩
 replace H : ((impl_IsSet.f k a0_0 l0_1 l1).bind fun t397 => (if t397 = true then (impl_DefendedBy.l0 k l1 y394 a0_0 0 a0_0 l0_1) else (some y394))) = some r := hy_ hy394 H
 have Ny394 := Aside0.mk hy394
 clear hy394
 replace H := Option.bind_eq_some_iff.mp H
 obtain ⟨t397, A30, H⟩ := H
 replace H : (if t397 = true then (impl_DefendedBy.l0 k l1 y394 a0_0 0 a0_0 l0_1) else (some y394)) = some r := H
 have A3 := Aside0.mk A30
 clear A30
 by_cases c4 : t397 = true
 ·subst c4
  have H1 : (impl_DefendedBy.l0 k l1 y394 a0_0 0 a0_0 l0_1) = some r := by rw [if_pos rfl] at H; exact H
  clear H
  have H := H1
  clear H1
  have H' := Aside0.mk H
  clear H
  go_enter Try.func89, Try.ntmps89
  go_wp2_with (first | ((with_reducible refine Zr (N := 2) rfl ?_); refine Zu ?hg (N := 2) ?hd (cs := #[.int .i64 a0_0, .slice A0_1 l0_1.length c0_1]) (t := 27) ?hr ?_; (case hd => rfl); (case hg => rfl); (case hr => first | (go_simp; done) | (go_simp; rfl)); intro gb393 hg w5 hbox hb; have n0_ := Aside0.mk (Zf hb_ hb); have n1_ := Aside0.mk (hbox); have n2_ := Aside0.mk ((hz_ hg : w.heap.size ≤ gb393)); have n3_ := Aside0.mk ((hz_ hg : w.heap.size ≤ gb393)); clear HB; have HB := n0_; have BK393 := n1_; have GW393 := n2_; have GE393 := n3_; clear n0_ n1_ n2_ n3_; clear hb hbox hg) | ((with_reducible refine Zr (N := 7) rfl ?_); refine Kd.R_lit (Kd.int .i64) _ 3 ?hg (N := 7) ?hd (xs := ([] : List Int)) (inner := []) (ok := fun _ => True) (okp := fun _ => True) ?hr ?hp (fun _ hk => hk) trivial (Below.refl _ _) (Nat.le_refl _) (by simp) ?_; (case hd => rfl); (case hg => rfl); (case hr => first | (go_simp; done) | (go_simp; rfl)); (case hp => exact (Reps.none _ _)); intro v395 w6 ho7 hb hg_ hnew_; clear hg_ hnew_; (first | rw [← Ny394.out] at ho7 | (simp only [Int.reduceToNat] at ho7; rw [← Ny394.out] at ho7)); have n0_ := Aside0.mk (Kd.R_lower ho7 (Zi hb_)); have n1_ := Aside0.mk (Zj (g := gb393) (o := .cells #[.int .i64 a0_0, .slice A0_1 l0_1.length c0_1] 27 (0, 0)) (bk_ BK393.out) hb); have n2_ := Aside0.mk (Zf hb_ hb); clear BK393; clear HB; have HO396 := n0_; have BK393 := n1_; have HB := n2_; clear n0_ n1_ n2_; clear hb ho7; have hcz8_0 : w6.cell? ⟨gb393, 0, none⟩ = some (.int .i64 a0_0) := (Ze BK393.out 0).trans rfl; have hcz8_1 : w6.cell? ⟨gb393, 1, none⟩ = some (.slice A0_1 l0_1.length c0_1) := (Ze BK393.out 1).trans rfl; have hfz8_0 := Zd BK393.out 0; have hfz8_1 := Zd BK393.out 1) | ((with_reducible refine Zl (f := 70) rfl ?_); refine Zx (some 10) rfl rfl Try.func70 (by kernel_rfl) rfl #[.agg #[.int .i64 a0_0, .slice A0_1 l0_1.length c0_1], .slice A1 l1.length c1] rfl ar_ ?_; (with_reducible refine (impl_IsSet.calls k a0_0 _ _ l0_1 _ _ l1 true _ ?side1 ?side2 ?side3 ?side4 A3.out).mono ?_); (case side1 => exact cb_ HR0_1.out); (case side2 => exact HC0_1.out); (case side3 => exact cb_ HR1.out); (case side4 => exact HC1.out); rintro e w9 ⟨rfl, hb⟩; refine ⟨_, rfl, ?_⟩; have n0_ := Aside0.mk (Kd.R_below (rR_ HO396.out) hb); have n1_ := Aside0.mk (Zj (g := gb393) (o := .cells #[.int .i64 a0_0, .slice A0_1 l0_1.length c0_1] 27 (0, 0)) (bk_ BK393.out) hb); have n2_ := Aside0.mk (Zf hb_ hb); clear HO396; clear BK393; clear HB; have HO396 := n0_; have BK393 := n1_; have HB := n2_; clear n0_ n1_ n2_; (try clear hb); (try clear hb2); (try clear hk); (try clear hi); have hcz10_0 : w9.cell? ⟨gb393, 0, none⟩ = some (.int .i64 a0_0) := (Ze BK393.out 0).trans rfl; have hcz10_1 : w9.cell? ⟨gb393, 1, none⟩ = some (.slice A0_1 l0_1.length c0_1) := (Ze BK393.out 1).trans rfl; have hfz10_0 := Zd BK393.out 0; have hfz10_1 := Zd BK393.out 1))
  go_loopg [5, 15] k (fun kq v5 v15 w' => ∃ (x5_1 : List Int) (x15_1 : Int), v15 = .int .i64 x15_1 ∧ Aside0 (impl_DefendedBy.l0 kq l1 x5_1 a0_0 x15_1 a0_0 l0_1 = some r) ∧ Aside0 (kq ≤ k) ∧ Aside0 (Kd.R (Kd.int .i64) 3 w' w.heap.size (fun _ => True) v5 x5_1) ∧ Aside0 (w'.heap[gb393]? = some (.cells #[.int .i64 a0_0, (.slice A0_1 l0_1.length c0_1)] 27 (0, 0))) ∧ Aside0 (Below w.heap.size w w'))
  case atStart => exact ⟨(y394), (0), sm_, H', ⟨Nat.le_refl _⟩, ⟨rR_ HO396.out⟩, ⟨bk_ BK393.out⟩, ⟨hb_⟩⟩
  case round =>
   clear H'
   try clear c1
   try clear p2
   try clear c4
   try clear c7
   try clear c8
   try clear hcz10_0
   try clear hcz10_1
   try clear hcz8_0
   try clear hcz8_1
   try clear hfz10_0
   try clear hfz10_1
   try clear hfz8_0
   try clear hfz8_1
   obtain ⟨x5_1, x15_1, rfl, HA, HK1, HO_5, BK393, HB⟩ := hrel
   cases gk with
   | zero => exact absurd HA.out (by simp [impl_DefendedBy.l0])
   | succ k1 =>
    have H := HA.out
    clear HA
    simp only [impl_DefendedBy.l0] at H
    by_cases c11 : x15_1 < a0_0
    ·rw [if_pos c11] at H
     have c11b0 : decide (x15_1 < a0_0) = true := decide_eq_true c11
     clear c11
     replace H := Option.bind_eq_some_iff.mp H
     obtain ⟨t398, A120, H⟩ := H
     replace H : (if t398 = true then (if x5_1.length < 17592186044416 then (impl_DefendedBy.l0 k1 l1 (x5_1 ++ [x15_1]) a0_0 (wrap64 (x15_1 + 1)) a0_0 l0_1) else (none)) else (impl_DefendedBy.l0 k1 l1 x5_1 a0_0 (wrap64 (x15_1 + 1)) a0_0 l0_1)) = some r := H
     have A12 := Aside0.mk A120
     clear A120
     by_cases c13 : t398 = true
     ·subst c13
      have H1 : (if x5_1.length < 17592186044416 then (impl_DefendedBy.l0 k1 l1 (x5_1 ++ [x15_1]) a0_0 (wrap64 (x15_1 + 1)) a0_0 l0_1) else (none)) = some r := by rw [if_pos rfl] at H; exact H
      clear H
      have H := H1
      clear H1
      by_cases c14 : x5_1.length < 17592186044416
      ·rw [if_pos c14] at H
       have LMc14 := Aside0.mk c14
       clear c14
       obtain ⟨y399, hy399⟩ : ∃ y_ : List Int, y_ = (x5_1 ++ [x15_1]) := ⟨_, rfl⟩
       replace H : (impl_DefendedBy.l0 k1 l1 y399 a0_0 (wrap64 (x15_1 + 1)) a0_0 l0_1) = some r := hy_ hy399 H
       have Ny399 := Aside0.mk hy399
       clear hy399
       have H' := Aside0.mk H
       clear H
       have hcz15_0 : wr.cell? ⟨gb393, 0, none⟩ = some (.int .i64 a0_0) := (Ze BK393.out 0).trans rfl
       have hcz15_1 : wr.cell? ⟨gb393, 1, none⟩ = some (.slice A0_1 l0_1.length c0_1) := (Ze BK393.out 1).trans rfl
       have hfz15_0 := Zd BK393.out 0
       have hfz15_1 := Zd BK393.out 1
       go_wp2_with (first | ((with_reducible refine Zl (f := 97) rfl ?_); refine Zx (some 21) rfl rfl Try.func97 (by kernel_rfl) rfl #[.agg #[.int .i64 a0_0, .slice A0_1 l0_1.length c0_1], .slice A1 l1.length c1, .int .i64 x15_1] rfl ar_ ?_; (with_reducible refine (impl_Defends.calls k1 a0_0 _ _ l0_1 _ _ l1 x15_1 true _ ?side1 ?side2 ?side3 ?side4 A12.out).mono ?_); (case side1 => exact cb_ HR0_1.out); (case side2 => exact HC0_1.out); (case side3 => exact cb_ HR1.out); (case side4 => exact HC1.out); rintro e w16 ⟨rfl, hb⟩; refine ⟨_, rfl, ?_⟩; have n0_ := Aside0.mk (Kd.R_below (rR_ HO_5.out) hb); have n1_ := Aside0.mk (Zj (g := gb393) (o := .cells #[.int .i64 a0_0, .slice A0_1 l0_1.length c0_1] 27 (0, 0)) (bk_ BK393.out) hb); have n2_ := Aside0.mk (Zf hb_ hb); clear HO_5; clear BK393; clear HB; have HO_5 := n0_; have BK393 := n1_; have HB := n2_; clear n0_ n1_ n2_; (try clear hb); (try clear hb2); (try clear hk); (try clear hi)) | ((with_reducible refine gate_builtin (b := .append) (xs := #[.tmp 22, .tmp 24]) rfl ?_); at_builtin; refine Kd.R_append (Kd.int .i64) (w0 := w) w.heap.size rfl (.tmp 22) (.tmp 24) 38 3 (.int .i64 0) 8 rfl Try.underlying38 info3 rfl (by decide) (by omega) u5 x5_1 x15_1 [.int .i64 x15_1] (fun _ => True) (fun _ => False) rfl rfl ?aP (fun _ hk => hk.elim) ?aF ?aO ?aB ?aS ?aL ?_; (case aP => exact rfl); (case aB => exact hb_); (case aF => exact (fun _ _ => trivial)); (case aO => exact (rR_ HO_5.out)); (case aS => exact (Zi hb_)); (case aL => have := LMc14.out; omega); intro v400 w17 ho hb hg hat; rw [← Ny399.out] at ho; have n0_ := Aside0.mk (blk_grown (g := gb393) (o := .cells #[.int .i64 a0_0, .slice A0_1 l0_1.length c0_1] 27 (0, 0)) (bk_ BK393.out) hg (Kd.R_ne HO_5.out BK393.out (by decide))); have n1_ := Aside0.mk (hb); have n2_ := Aside0.mk (ho); clear BK393; clear HB; clear HO_5; have BK393 := n0_; have HB := n1_; have HO401 := n2_; clear n0_ n1_ n2_; clear ho hb hg hat))
       go_roundg k1
       case measure => have := HK1.out; omega
       case rel => exact ⟨(y399), (wrap64 (x15_1 + 1)), sm_, H', ⟨by have := HK1.out; omega⟩, ⟨rR_ HO401.out⟩, ⟨bk_ BK393.out⟩, ⟨hb_⟩⟩
      ·rw [if_neg c14] at H
       exact absurd H (by simp)
     ·replace c13 := Bool.eq_false_iff.mpr c13
      subst c13
      have H1 : (impl_DefendedBy.l0 k1 l1 x5_1 a0_0 (wrap64 (x15_1 + 1)) a0_0 l0_1) = some r := by rw [if_neg (show ¬ (false = true) by decide)] at H; exact H
      clear H
      have H := H1
      clear H1
      have H' := Aside0.mk H
      clear H
      have hcz18_0 : wr.cell? ⟨gb393, 0, none⟩ = some (.int .i64 a0_0) := (Ze BK393.out 0).trans rfl
      have hcz18_1 : wr.cell? ⟨gb393, 1, none⟩ = some (.slice A0_1 l0_1.length c0_1) := (Ze BK393.out 1).trans rfl
      have hfz18_0 := Zd BK393.out 0
      have hfz18_1 := Zd BK393.out 1
      go_wp2_with (first | ((with_reducible refine Zl (f := 97) rfl ?_); refine Zx (some 21) rfl rfl Try.func97 (by kernel_rfl) rfl #[.agg #[.int .i64 a0_0, .slice A0_1 l0_1.length c0_1], .slice A1 l1.length c1, .int .i64 x15_1] rfl ar_ ?_; (with_reducible refine (impl_Defends.calls k1 a0_0 _ _ l0_1 _ _ l1 x15_1 false _ ?side1 ?side2 ?side3 ?side4 A12.out).mono ?_); (case side1 => exact cb_ HR0_1.out); (case side2 => exact HC0_1.out); (case side3 => exact cb_ HR1.out); (case side4 => exact HC1.out); rintro e w19 ⟨rfl, hb⟩; refine ⟨_, rfl, ?_⟩; have n0_ := Aside0.mk (Kd.R_below (rR_ HO_5.out) hb); have n1_ := Aside0.mk (Zj (g := gb393) (o := .cells #[.int .i64 a0_0, .slice A0_1 l0_1.length c0_1] 27 (0, 0)) (bk_ BK393.out) hb); have n2_ := Aside0.mk (Zf hb_ hb); clear HO_5; clear BK393; clear HB; have HO_5 := n0_; have BK393 := n1_; have HB := n2_; clear n0_ n1_ n2_; (try clear hb); (try clear hb2); (try clear hk); (try clear hi)))
      go_roundg k1
      case measure => have := HK1.out; omega
      case rel => exact ⟨(x5_1), (wrap64 (x15_1 + 1)), sm_, H', ⟨by have := HK1.out; omega⟩, ⟨rR_ HO_5.out⟩, ⟨bk_ BK393.out⟩, ⟨hb_⟩⟩
    ·rw [if_neg c11] at H
     have c11b0 : decide (x15_1 < a0_0) = false := decide_eq_false c11
     clear c11
     obtain rfl := Option.some.inj H
     go_wp2
     go_ret
     exact ⟨_, er_, rR_ HO_5.out, hb_⟩
 ·replace c4 := Bool.eq_false_iff.mpr c4
  subst c4
  have H1 : (some y394) = some r := by rw [if_neg (show ¬ (false = true) by decide)] at H; exact H
  clear H
  have H := H1
  clear H1
  obtain rfl := Option.some.inj H
  go_enter Try.func89, Try.ntmps89
  go_wp2_with (first | ((with_reducible refine Zr (N := 2) rfl ?_); refine Zu ?hg (N := 2) ?hd (cs := #[.int .i64 a0_0, .slice A0_1 l0_1.length c0_1]) (t := 27) ?hr ?_; (case hd => rfl); (case hg => rfl); (case hr => first | (go_simp; done) | (go_simp; rfl)); intro gb393 hg w20 hbox hb; have n0_ := Aside0.mk (Zf hb_ hb); have n1_ := Aside0.mk (hbox); have n2_ := Aside0.mk ((hz_ hg : w.heap.size ≤ gb393)); have n3_ := Aside0.mk ((hz_ hg : w.heap.size ≤ gb393)); clear HB; have HB := n0_; have BK393 := n1_; have GW393 := n2_; have GE393 := n3_; clear n0_ n1_ n2_ n3_; clear hb hbox hg) | ((with_reducible refine Zr (N := 7) rfl ?_); refine Kd.R_lit (Kd.int .i64) _ 3 ?hg (N := 7) ?hd (xs := ([] : List Int)) (inner := []) (ok := fun _ => True) (okp := fun _ => True) ?hr ?hp (fun _ hk => hk) trivial (Below.refl _ _) (Nat.le_refl _) (by simp) ?_; (case hd => rfl); (case hg => rfl); (case hr => first | (go_simp; done) | (go_simp; rfl)); (case hp => exact (Reps.none _ _)); intro v395 w21 ho22 hb hg_ hnew_; clear hg_ hnew_; (first | rw [← Ny394.out] at ho22 | (simp only [Int.reduceToNat] at ho22; rw [← Ny394.out] at ho22)); have n0_ := Aside0.mk (Kd.R_lower ho22 (Zi hb_)); have n1_ := Aside0.mk (Zj (g := gb393) (o := .cells #[.int .i64 a0_0, .slice A0_1 l0_1.length c0_1] 27 (0, 0)) (bk_ BK393.out) hb); have n2_ := Aside0.mk (Zf hb_ hb); clear BK393; clear HB; have HO396 := n0_; have BK393 := n1_; have HB := n2_; clear n0_ n1_ n2_; clear hb ho22; have hcz23_0 : w21.cell? ⟨gb393, 0, none⟩ = some (.int .i64 a0_0) := (Ze BK393.out 0).trans rfl; have hcz23_1 : w21.cell? ⟨gb393, 1, none⟩ = some (.slice A0_1 l0_1.length c0_1) := (Ze BK393.out 1).trans rfl; have hfz23_0 := Zd BK393.out 0; have hfz23_1 := Zd BK393.out 1) | ((with_reducible refine Zl (f := 70) rfl ?_); refine Zx (some 10) rfl rfl Try.func70 (by kernel_rfl) rfl #[.agg #[.int .i64 a0_0, .slice A0_1 l0_1.length c0_1], .slice A1 l1.length c1] rfl ar_ ?_; (with_reducible refine (impl_IsSet.calls k a0_0 _ _ l0_1 _ _ l1 false _ ?side1 ?side2 ?side3 ?side4 A3.out).mono ?_); (case side1 => exact cb_ HR0_1.out); (case side2 => exact HC0_1.out); (case side3 => exact cb_ HR1.out); (case side4 => exact HC1.out); rintro e w24 ⟨rfl, hb⟩; refine ⟨_, rfl, ?_⟩; have n0_ := Aside0.mk (Kd.R_below (rR_ HO396.out) hb); have n1_ := Aside0.mk (Zj (g := gb393) (o := .cells #[.int .i64 a0_0, .slice A0_1 l0_1.length c0_1] 27 (0, 0)) (bk_ BK393.out) hb); have n2_ := Aside0.mk (Zf hb_ hb); clear HO396; clear BK393; clear HB; have HO396 := n0_; have BK393 := n1_; have HB := n2_; clear n0_ n1_ n2_; (try clear hb); (try clear hb2); (try clear hk); (try clear hi)))
  go_ret
  exact ⟨_, er_, rR_ HO396.out, hb_⟩

/-! ### impl_IsComplete: function 79 -/
def impl_IsComplete.f (k : Nat) (a0_0 : Int) (l0_1 : List (List Int)) (l1 : List Int) : Option (Bool) := (impl_IsFree.f k a0_0 l0_1 l1).bind fun t403 => (if t403 = true then ((impl_DefendedBy.f k a0_0 l0_1 l1).bind fun t404 => ((slices_Equal_int_int.f k t404 l1).bind fun t407 => (some t407))) else (some false))
theorem impl_IsComplete.mono : ∀ a0 a1 a2 k, LeO (impl_IsComplete.f k a0 a1 a2) (impl_IsComplete.f (k + 1) a0 a1 a2) := by
 intro a0 a1 a2 k
 unfold impl_IsComplete.f
 repeat' first
   | (with_reducible exact impl_DefendedBy.mono _ _ _ _)
   | (with_reducible exact impl_IsFree.mono _ _ _ _)
   | (with_reducible exact slices_Equal_int_int.mono _ _ _)
   | (with_reducible exact Zs _)
   | (with_reducible exact Zg _)
   | (with_reducible refine Zn ?_ ?_)
   | (with_reducible refine Zh ?_ (fun _ => ?_))
   | exact impl_DefendedBy.mono _ _ _ _
   | exact impl_IsFree.mono _ _ _ _
   | exact slices_Equal_int_int.mono _ _ _
   | exact Zg _
   | refine Zn ?_ ?_
   | refine Zh ?_ (fun _ => ?_)
set_option maxHeartbeats 8000000 in
set_option maxRecDepth 100000 in
theorem impl_IsComplete.calls (k : Nat) (a0_0 : Int) (A0_1 : Option Addr) (c0_1 : Nat) (l0_1 : List (List Int)) (A1 : Option Addr) (c1 : Nat) (l1 : List Int) (r : Bool) (w : World) (hr0_1 : Kd.C (Kd.slice 3 (Kd.int .i64)) w A0_1 l0_1.length l0_1) (hc0_1 : l0_1.length ≤ c0_1) (hr1 : Kd.C (Kd.int .i64) w A1 l1.length l1) (hc1 : l1.length ≤ c1) (h : impl_IsComplete.f k a0_0 l0_1 l1 = some r) :
  Calls Try.prog 79 #[.agg #[.int .i64 a0_0, .slice A0_1 l0_1.length c0_1], .slice A1 l1.length c1] w fun e w' => e = .returned (.bool r) ∧ Below w.heap.size w w' := by
 have hu27 := Try.underlying27
 have HR0_1 := Aside0.mk hr0_1
 have HC0_1 := Aside0.mk hc0_1
 clear hr0_1 hc0_1
 have HR1 := Aside0.mk hr1
 have HC1 := Aside0.mk hc1
 clear hr1 hc1
 have HB := Aside0.mk (Below.refl w.heap.size w)
 have H : ((impl_IsFree.f k a0_0 l0_1 l1).bind fun t403 => (if t403 = true then ((impl_DefendedBy.f k a0_0 l0_1 l1).bind fun t404 => ((slices_Equal_int_int.f k t404 l1).bind fun t407 => (some t407))) else (some false))) = some r := h
 clear h
 replace H := Option.bind_eq_some_iff.mp H
 obtain ⟨t403, A30, H⟩ := H
 replace H : (if t403 = true then ((impl_DefendedBy.f k a0_0 l0_1 l1).bind fun t404 => ((slices_Equal_int_int.f k t404 l1).bind fun t407 => (some t407))) else (some false)) = some r := H
 have A3 := Aside0.mk A30
 clear A30
 by_cases c4 : t403 = true
 ·subst c4
  have H1 : ((impl_DefendedBy.f k a0_0 l0_1 l1).bind fun t404 => ((slices_Equal_int_int.f k t404 l1).bind fun t407 => (some t407))) = some r := by rw [if_pos rfl] at H; exact H
  clear H
  have H := H1
  clear H1
  replace H := Option.bind_eq_some_iff.mp H
  obtain ⟨t404, A50, H⟩ := H
  replace H : ((slices_Equal_int_int.f k t404 l1).bind fun t407 => (some t407)) = some r := H
  have A5 := Aside0.mk A50
  clear A50
  replace H := Option.bind_eq_some_iff.mp H
  obtain ⟨t407, A60, H⟩ := H
  replace H : (some t407) = some r := H
  have A6 := Aside0.mk A60
  clear A60
  obtain rfl := Option.some.inj H
  go_enter Try.func79, Try.ntmps79
  go_wp2_with (first | ((with_reducible refine Zr (N := 2) rfl ?_); refine Zu ?hg (N := 2) ?hd (cs := #[.int .i64 a0_0, .slice A0_1 l0_1.length c0_1]) (t := 27) ?hr ?_; (case hd => rfl); (case hg => rfl); (case hr => first | (go_simp; done) | (go_simp; rfl)); intro gb402 hg w7 hbox hb; have n0_ := Aside0.mk (Zf hb_ hb); have n1_ := Aside0.mk (hbox); have n2_ := Aside0.mk ((hz_ hg : w.heap.size ≤ gb402)); have n3_ := Aside0.mk ((hz_ hg : w.heap.size ≤ gb402)); clear HB; have HB := n0_; have BK402 := n1_; have GW402 := n2_; have GE402 := n3_; clear n0_ n1_ n2_ n3_; clear hb hbox hg; have hcz8_0 : w7.cell? ⟨gb402, 0, none⟩ = some (.int .i64 a0_0) := (Ze BK402.out 0).trans rfl; have hcz8_1 : w7.cell? ⟨gb402, 1, none⟩ = some (.slice A0_1 l0_1.length c0_1) := (Ze BK402.out 1).trans rfl; have hfz8_0 := Zd BK402.out 0; have hfz8_1 := Zd BK402.out 1) | ((with_reducible refine Zl (f := 88) rfl ?_); refine Zx (some 7) rfl rfl Try.func88 (by kernel_rfl) rfl #[.agg #[.int .i64 a0_0, .slice A0_1 l0_1.length c0_1], .slice A1 l1.length c1] rfl ar_ ?_; (with_reducible refine (impl_IsFree.calls k a0_0 _ _ l0_1 _ _ l1 true _ ?side1 ?side2 ?side3 ?side4 A3.out).mono ?_); (case side1 => exact cb_ HR0_1.out); (case side2 => exact HC0_1.out); (case side3 => exact cb_ HR1.out); (case side4 => exact HC1.out); rintro e w9 ⟨rfl, hb⟩; refine ⟨_, rfl, ?_⟩; have n0_ := Aside0.mk (Zj (g := gb402) (o := .cells #[.int .i64 a0_0, .slice A0_1 l0_1.length c0_1] 27 (0, 0)) (bk_ BK402.out) hb); have n1_ := Aside0.mk (Zf hb_ hb); clear BK402; clear HB; have BK402 := n0_; have HB := n1_; clear n0_ n1_; (try clear hb); (try clear hb2); (try clear hk); (try clear hi); have hcz10_0 : w9.cell? ⟨gb402, 0, none⟩ = some (.int .i64 a0_0) := (Ze BK402.out 0).trans rfl; have hcz10_1 : w9.cell? ⟨gb402, 1, none⟩ = some (.slice A0_1 l0_1.length c0_1) := (Ze BK402.out 1).trans rfl; have hfz10_0 := Zd BK402.out 0; have hfz10_1 := Zd BK402.out 1) | (go_at_call 89; (with_reducible refine (impl_DefendedBy.calls k a0_0 _ _ l0_1 _ _ l1 t404 _ ?side1 ?side2 ?side3 ?side4 A5.out).mono ?_); (case side1 => exact cb_ HR0_1.out); (case side2 => exact HC0_1.out); (case side3 => exact cb_ HR1.out); (case side4 => exact HC1.out); rintro e w11 ⟨v405, rfl, ho0, hb⟩; have n0_ := Aside0.mk (Kd.R_lower ho0 (Zi hb_)); have n1_ := Aside0.mk (Zj (g := gb402) (o := .cells #[.int .i64 a0_0, .slice A0_1 l0_1.length c0_1] 27 (0, 0)) (bk_ BK402.out) hb); have n2_ := Aside0.mk (Zf hb_ hb); clear BK402; clear HB; have HO406 := n0_; have BK402 := n1_; have HB := n2_; clear n0_ n1_ n2_; (try clear hb); (try clear hb2); (try clear hk); (try clear hi); (try clear ho0); obtain ⟨Ao12, co12, eo12⟩ := Kd.R_slice HO406.out; subst eo12) | (go_at_call 61; (with_reducible refine (slices_Equal_int_int.calls k _ _ t404 _ _ l1 t407 _ ?side1 ?side2 ?side3 ?side4 A6.out).mono ?_); (case side1 => repeat (first | exact (Zw HO406.out).2.2 | (with_reducible refine Zv ?_ _) | (with_reducible refine Zt ?_ _) | (with_reducible refine Zy ?_))); (case side2 => exact (Zw HO406.out).2.1); (case side3 => exact cb_ HR1.out); (case side4 => exact HC1.out); rintro e w' ⟨rfl, ⟨nd, rfl⟩⟩))
  go_ret
  exact ⟨er_, hb_⟩
 ·replace c4 := Bool.eq_false_iff.mpr c4
  subst c4
  have H1 : (some false) = some r := by rw [if_neg (show ¬ (false = true) by decide)] at H; exact H
  clear H
  have H := H1
  clear H1
  obtain rfl := Option.some.inj H
  go_enter Try.func79, Try.ntmps79
  go_wp2_with (first | ((with_reducible refine Zr (N := 2) rfl ?_); refine Zu ?hg (N := 2) ?hd (cs := #[.int .i64 a0_0, .slice A0_1 l0_1.length c0_1]) (t := 27) ?hr ?_; (case hd => rfl); (case hg => rfl); (case hr => first | (go_simp; done) | (go_simp; rfl)); intro gb402 hg w13 hbox hb; have n0_ := Aside0.mk (Zf hb_ hb); have n1_ := Aside0.mk (hbox); have n2_ := Aside0.mk ((hz_ hg : w.heap.size ≤ gb402)); have n3_ := Aside0.mk ((hz_ hg : w.heap.size ≤ gb402)); clear HB; have HB := n0_; have BK402 := n1_; have GW402 := n2_; have GE402 := n3_; clear n0_ n1_ n2_ n3_; clear hb hbox hg; have hcz14_0 : w13.cell? ⟨gb402, 0, none⟩ = some (.int .i64 a0_0) := (Ze BK402.out 0).trans rfl; have hcz14_1 : w13.cell? ⟨gb402, 1, none⟩ = some (.slice A0_1 l0_1.length c0_1) := (Ze BK402.out 1).trans rfl; have hfz14_0 := Zd BK402.out 0; have hfz14_1 := Zd BK402.out 1) | ((with_reducible refine Zl (f := 88) rfl ?_); refine Zx (some 7) rfl rfl Try.func88 (by kernel_rfl) rfl #[.agg #[.int .i64 a0_0, .slice A0_1 l0_1.length c0_1], .slice A1 l1.length c1] rfl ar_ ?_; (with_reducible refine (impl_IsFree.calls k a0_0 _ _ l0_1 _ _ l1 false _ ?side1 ?side2 ?side3 ?side4 A3.out).mono ?_); (case side1 => exact cb_ HR0_1.out); (case side2 => exact HC0_1.out); (case side3 => exact cb_ HR1.out); (case side4 => exact HC1.out); rintro e w15 ⟨rfl, hb⟩; refine ⟨_, rfl, ?_⟩; have n0_ := Aside0.mk (Zj (g := gb402) (o := .cells #[.int .i64 a0_0, .slice A0_1 l0_1.length c0_1] 27 (0, 0)) (bk_ BK402.out) hb); have n1_ := Aside0.mk (Zf hb_ hb); clear BK402; clear HB; have BK402 := n0_; have HB := n1_; clear n0_ n1_; (try clear hb); (try clear hb2); (try clear hk); (try clear hi)))
  go_ret
  exact ⟨er_, hb_⟩

/-! ### slices_SortFunc_int_int: function 80 -/
/-- slices.SortFunc of rows by slices.Compare: the row holds the same rows, in order. -/
def cmpR (x y : List Int) : Int := if x < y then -1 else if y < x then 1 else 0
def sortR (l : List (List Int)) : List (List Int) := l.mergeSort fun x y => decide (¬ y < x)
theorem sortR_len (l : List (List Int)) : (sortR l).length = l.length := List.length_mergeSort ..
def slices_SortFunc_int_int.f (k : Nat) (l0 : List (List Int)) (a1 : Nat) : Option (List (List Int)) := if a1 = 81 ∧ l0.length < 4611686018427387904 ∧ ∀ x ∈ l0, ∀ y ∈ l0, slices_Compare_int_int.f k x y = some (cmpR x y) then some (sortR l0) else none
theorem slices_SortFunc_int_int.mono : ∀ a0 a1 k, LeO (slices_SortFunc_int_int.f k a0 a1) (slices_SortFunc_int_int.f (k + 1) a0 a1) := by
  intro a0 a1 k r h
  unfold slices_SortFunc_int_int.f at h ⊢
  by_cases c : a1 = 81 ∧ a0.length < 4611686018427387904 ∧ ∀ x ∈ a0, ∀ y ∈ a0, slices_Compare_int_int.f k x y = some (cmpR x y)
  · rw [if_pos c] at h
    rw [if_pos ⟨c.1, c.2.1, fun x hx y hy => slices_Compare_int_int.mono _ _ _ _ (c.2.2 x hx y hy)⟩]
    exact h
  · rw [if_neg c] at h
    cases h
section
variable {α : Type} [Inhabited α] {enc : α → Value}
theorem heap_sortedE {w : World} {g n : Nat} {os : Array Obj} {cur : Array Value} {e : TypeId} {fr : Nat × Nat} (d : Array α) (hb : w.heap[g]? = some (.cells cur e fr)) : (sortWorld enc w g 0 n d os).heap[g]? = some (.cells (Go.Sort.putCells enc 0 d cur) e fr) := by
  have hg : g < w.heap.size := (Array.getElem?_eq_some_iff.1 hb).1
  unfold sortWorld
  rw [Go.Sort.heap_grow_old _ _ (by simpa using hg)]
  simp [Go.Sort.putRow, Go.Sort.mapBlock, Go.Sort.ahead, Array.getElem?_modify, hb, Go.Sort.onCells]
theorem grownBy_sortedE {w : World} {g n : Nat} {os : Array Obj} (d : Array α) : w.grownBy (sortWorld enc w g 0 n d os) (some g) := by
  refine ⟨rfl, rfl, rfl, by simp [sortWorld], fun k hk hne => ?_⟩
  unfold sortWorld
  rw [Go.Sort.heap_grow_old _ _ (by simpa using hk)]
  have : g ≠ k := fun e => hne (by rw [e])
  simp [Go.Sort.putRow, Go.Sort.mapBlock, Go.Sort.ahead, Array.getElem?_modify, this]
theorem take_putCellsE (cur : Array Value) (ts : Array α) (h : ts.size ≤ cur.size) : (Go.Sort.putCells enc 0 ts cur).toList.take ts.size = ts.toList.map enc := by
  apply List.ext_getElem?
  intro j
  by_cases hj : j < ts.size
  · rw [List.getElem?_take_of_lt hj, Array.getElem?_toList]
    simp [Go.Sort.putCells, hj, show j < cur.size by omega]
  · rw [List.getElem?_take_eq_none (by omega), List.getElem?_eq_none (by simp; omega)]
end
theorem cmpR_lt (x y : List Int) : cmpR x y < 0 ↔ x < y := by
  unfold cmpR
  by_cases h : x < y
  · rw [if_pos h]; exact ⟨fun _ => h, fun _ => by decide⟩
  · rw [if_neg h]
    refine ⟨fun h2 => ?_, fun h2 => absurd h2 h⟩
    split at h2 <;> omega
theorem drop_take_one {β : Type} (l : List β) (j : Nat) (v : β) (h : l[j]? = some v) : (l.drop (j * 1)).take 1 = [v] := by
  obtain ⟨hj, e⟩ := List.getElem?_eq_some_iff.1 h
  rw [Nat.mul_one, List.drop_eq_getElem_cons hj, e, List.take_succ_cons, List.take_zero]
/-- Sorting the places of a row's elements sorts the row. -/
theorem sort_places {n : Nat} (l : List (List Int)) (hn : n = l.length) (h0 : 0 < n) (d' : List (Fin n)) (hp : d'.Perm (List.finRange n)) (hs : d'.Pairwise fun i j => ¬ l.getD j.val [] < l.getD i.val []) : d'.map (fun i => l.getD i.val []) = sortR l := by
  subst hn
  have hl : (List.finRange l.length).map (fun i => l.getD i.val []) = l := by
    apply List.ext_getElem (by simp)
    intro i h1 h2
    simp
  have h1 : (d'.map (fun i => l.getD i.val [])).Perm (sortR l) := by
    refine (hp.map _).trans ?_
    rw [hl]
    exact (List.mergeSort_perm l _).symm
  refine List.Perm.eq_of_pairwise (le := fun x y => ¬ y < x) ?_ ?_ ?_ h1
  · intro a b _ _ hab hba
    exact List.le_antisymm hab hba
  · rw [List.pairwise_map]
    exact hs
  · have := List.pairwise_mergeSort (le := fun x y : List Int => decide (¬ y < x)) (fun a b c h1 h2 => by
      rw [decide_eq_true_eq] at h1 h2 ⊢
      exact List.le_trans h1 h2) (fun a b => by
      rw [Bool.or_eq_true, decide_eq_true_eq, decide_eq_true_eq]
      exact List.le_total a b) l
    refine List.Pairwise.imp ?_ this
    intro a b h
    exact of_decide_eq_true h
set_option maxHeartbeats 8000000 in
set_option maxRecDepth 100000 in
theorem slices_SortFunc_int_int.calls (k : Nat) (P0_ : Nat → Prop) (u9000_ : Value) (l0 : List (List Int)) (a1 : Nat) (r1 : List (List Int)) (w0 w : World) (hB : Below w0.heap.size w0 w) (ho0 : Kd.S (Kd.slice 3 (Kd.int .i64)) 38 w w0.heap.size P0_ u9000_ l0) (h : slices_SortFunc_int_int.f k l0 a1 = some r1) :
    Calls Try.prog 80 #[u9000_, .func (.func a1) #[] #[]] w fun e w' => e = .returned (.tuple #[]) ∧ Kd.S (Kd.slice 3 (Kd.int .i64)) 38 w' w0.heap.size P0_ u9000_ r1 ∧ Below w0.heap.size w0 w' ∧ Kept w w' (fun k_ => some k_ = (u9000_ : Value).ownBlock) := by
  unfold slices_SortFunc_int_int.f at h
  by_cases c : a1 = 81 ∧ l0.length < 4611686018427387904 ∧ ∀ x ∈ l0, ∀ y ∈ l0, slices_Compare_int_int.f k x y = some (cmpR x y)
  rotate_left
  · rw [if_neg c] at h
    cases h
  rw [if_pos c] at h
  obtain rfl := Option.some.inj h
  clear h
  obtain ⟨rfl, hlen, hcmp⟩ := c
  have hS := ho0
  obtain ⟨f, h0, inner, ho, hr⟩ := ho0
  rw [List.length_zipIdx] at ho
  by_cases hpos : 0 < l0.length
  rotate_left
  · obtain rfl := List.eq_nil_of_length_eq_zero (show l0.length = 0 by omega)
    obtain ⟨A, c, hv⟩ := own_slice ho
    subst hv
    refine (YtkmhkkhlbnhaaaaSh.sortf_none A c _ w).mono ?_
    rintro e w' ⟨rfl, rfl⟩
    exact ⟨rfl, by rw [show sortR [] = [] by simp [sortR]]; exact hS, hB, Kept.refl _ _⟩
  obtain ⟨hil, hv⟩ := ho
  rcases hv with ⟨_, hz⟩ | ⟨g, cap, cur, rfl, hbg, hh, hnc, hcm, hcs, ht⟩
  · omega
  have hgl : g < w.heap.size := (Array.getElem?_eq_some_iff.1 hh).1
  rw [show (Kd.tag f (Kd.slice 3 (Kd.int .i64))).sz = 1 from rfl] at hil hcs ht hr
  rw [Nat.mul_one] at hil hcs ht
  have hil2 : inner.length = l0.length := hil
  clear hS hil
  generalize hN : l0.length = n at hpos hlen hil2 hnc ht h0 hr ⊢
  have : Inhabited (Fin n) := ⟨⟨0, hpos⟩⟩
  have hin : ∀ i : Fin n, inner[i.val]? = some (inner.getD i.val (.int .i64 0)) := fun i => by
    rw [List.getD_eq_getElem?_getD, List.getElem?_eq_getElem (by omega)]
    rfl
  have hli : ∀ i : Fin n, l0[i.val]? = some (l0.getD i.val []) := fun i => by
    rw [List.getD_eq_getElem?_getD, List.getElem?_eq_getElem (by omega)]
    rfl
  have hM : ∀ i : Fin n, (Kd.slice 3 (Kd.int .i64)).M w w0.heap.size (fun k_ => (P0_ k_ ∧ some k_ ≠ (Value.slice (some ⟨g, 0, none⟩) n cap).ownBlock) ∧ f k_ = i.val) (l0.getD i.val []) [inner.getD i.val (.int .i64 0)] := fun i => by
    have h1 := hr.2 i.val _ (Kd.zip_at (hli i))
    rw [drop_take_one inner i.val _ (hin i)] at h1
    exact h1
  let enc : Fin n → Value := fun i => inner.getD i.val (.int .i64 0)
  have hone : OneCell enc := fun i => by
    obtain ⟨v, hv, hR⟩ := hM i
    have hv2 : inner.getD i.val (.int .i64 0) = v := by injection hv
    show (inner.getD i.val (.int .i64 0)).oneCell' = true
    rw [hv2]
    exact (Kd.R_val hR).2
  have hgne : ∀ k_, (P0_ k_ ∧ some k_ ≠ (Value.slice (some ⟨g, 0, none⟩) n cap).ownBlock) → some k_ ≠ some g := fun k_ hk => hk.2
  have hmv : ∀ (i : Fin n) (W : World), w.grownBy W (some g) → (Kd.slice 3 (Kd.int .i64)).M W w0.heap.size (fun k_ => (P0_ k_ ∧ some k_ ≠ (Value.slice (some ⟨g, 0, none⟩) n cap).ownBlock) ∧ f k_ = i.val) (l0.getD i.val []) [enc i] := fun i W hW => Kd.M_grown (hM i) hW (fun k_ hk => hgne k_ hk.1)
  have hO : Go.Sort.SWO (ltOf fun i j : Fin n => cmpR (l0.getD i.val []) (l0.getD j.val [])) := by
    refine ⟨fun x => ?_, fun x y z hxy hyz => ?_, fun x y z hxy hyz => ?_⟩
    · unfold ltOf
      rw [decide_eq_false_iff_not, cmpR_lt]
      exact List.lt_irrefl _
    · unfold ltOf at hxy hyz ⊢
      rw [decide_eq_true_eq, cmpR_lt] at hxy hyz ⊢
      exact List.lt_trans hxy hyz
    · unfold ltOf at hxy hyz ⊢
      rw [decide_eq_false_iff_not, cmpR_lt] at hxy hyz ⊢
      exact List.le_trans hyz hxy
  have hC : CmpLays1 Try.prog 81 #[] enc (fun i j : Fin n => cmpR (l0.getD i.val []) (l0.getD j.val [])) g 0 (List.finRange n).toArray.size w := by
    refine CmpReads.lays ?_
    intro m os dk _ x y
    have hW := grownBy_sortedE (enc := enc) (w := w) (g := g) (n := m) (os := os) dk
    obtain ⟨A1, c1, e1, hl1, hr1⟩ := (Kd.slice 3 (Kd.int .i64)).K_of_M (hmv x _ hW)
    obtain ⟨A2, c2, e2, hl2, hr2⟩ := (Kd.slice 3 (Kd.int .i64)).K_of_M (hmv y _ hW)
    have e1 : enc x = .slice A1 (l0.getD x.val []).length c1 := by injection e1
    have e2 : enc y = .slice A2 (l0.getD y.val []).length c2 := by injection e2
    rw [e1, e2]
    refine (slices_Compare_int_int.calls k A1 c1 _ A2 c2 _ _ _ hr1 hl1 hr2 hl2 (hcmp _ (List.mem_of_getElem? (hli x)) _ (List.mem_of_getElem? (hli y)))).mono ?_
    rintro e w' ⟨rfl, q, hq⟩
    exact ⟨rfl, q, hq⟩
  have hH : Go.Sort.Holds enc w g 0 (List.finRange n).toArray := by
    intro j hj
    have hj' : j < n := by simpa using hj
    have hd : (List.finRange n).toArray[j]! = ⟨j, hj'⟩ := by
      rw [getElem!_pos _ j hj]
      simp
    refine ⟨?_, by simp [World.frozen?, hh]⟩
    rw [hd]
    have h1 : (cur.toList.take n)[j]? = some (enc ⟨j, hj'⟩) := by rw [ht]; exact hin ⟨j, hj'⟩
    rw [List.getElem?_take_of_lt hj'] at h1
    simp only [World.cell?, hh, Nat.zero_add]
    simp only [Option.isSome_none, Bool.false_eq_true, if_false]
    rw [← Array.getElem?_toList, h1]
  have hsz : (List.finRange n).toArray.size = n := by simp
  have hcall := YtkmhkkhlbnhaaaaSh.sortf_calls enc hone (fun i j : Fin n => cmpR (l0.getD i.val []) (l0.getD j.val [])) hO 81 g 0 cap (List.finRange n).toArray w (enters_of Try.func81 (by kernel_rfl) rfl) hC hH hgl (by rw [hsz]; exact hlen)
  rw [hsz] at hcall
  refine hcall.mono ?_
  rintro e w' ⟨rfl, d', m, os, hp, hs, rfl⟩
  obtain ⟨hp1, _, hp3⟩ := hp
  rw [hsz] at hp1
  have hp4 : d'.toList.Perm (List.finRange n) := by
    have e1 : d'.extract 0 n = d' := by
      have := Array.extract_size (xs := d')
      rwa [hp1] at this
    have e2 : (List.finRange n).toArray.extract 0 n = (List.finRange n).toArray := by
      have := Array.extract_size (xs := (List.finRange n).toArray)
      rwa [hsz] at this
    rwa [e1, e2] at hp3
  have hnd : d'.toList.Nodup := hp4.nodup_iff.2 (List.nodup_finRange n)
  have hpw : d'.toList.Pairwise fun i j => ¬ l0.getD j.val [] < l0.getD i.val [] := by
    rw [List.pairwise_iff_getElem]
    intro i j hi hj hij
    have hi2 : i < d'.size := by simpa using hi
    have hj2 : j < d'.size := by simpa using hj
    have h2 := hs i j (Nat.zero_le _) hij (by omega)
    unfold ltOf at h2
    rw [decide_eq_false_iff_not, cmpR_lt, getElem!_pos _ i hi2, getElem!_pos _ j hj2] at h2
    simpa using h2
  have hsort := sort_places l0 hN.symm hpos d'.toList hp4 hpw
  have hg := grownBy_sortedE (enc := enc) (w := w) (g := g) (n := m) (os := os) d'
  refine ⟨rfl, ?_, hB.grown hg hB.size (by intro k hk; injection hk with hk; omega), Kept.of_grown hg (Kept.refl w _) (by intro k hk; injection hk with hk; subst hk; exact .inl rfl)⟩
  have hdl : d'.toList.length = n := by simpa using hp1
  have hrl : (sortR l0).length = n := by rw [sortR_len, hN]
  refine ⟨fun k_ => if hk : f k_ < n then d'.toList.idxOf ⟨f k_, hk⟩ else n, h0, d'.toList.map enc, ⟨by rw [List.length_zipIdx, hrl, List.length_map, hdl]; exact (Nat.mul_one n).symm, .inr ⟨g, cap, _, by rw [List.length_zipIdx, hrl], hbg, heap_sortedE d' hh, by rw [List.length_zipIdx, hrl]; exact hnc, hcm, by rw [show (Kd.tag _ (Kd.slice 3 (Kd.int .i64))).sz = 1 from rfl, Nat.mul_one]; simp [Go.Sort.putCells, hcs], ?_⟩⟩, ?_, ?_⟩
  · rw [show (Kd.tag _ (Kd.slice 3 (Kd.int .i64))).sz = 1 from rfl, Nat.mul_one, List.length_zipIdx, hrl]
    have := take_putCellsE (enc := enc) cur d' (by omega)
    rwa [hp1] at this
  · rw [List.length_map, List.length_zipIdx, hrl, hdl]
    exact (Nat.mul_one n).symm
  · intro j p hj
    obtain ⟨hjl, _⟩ := List.getElem?_eq_some_iff.1 hj
    rw [List.length_zipIdx, hrl] at hjl
    have hdj : d'.toList[j]? = some (d'.toList[j]'(by omega)) := List.getElem?_eq_getElem (by omega)
    generalize hi : d'.toList[j]'(by omega) = i at hdj
    rw [show (Kd.tag _ (Kd.slice 3 (Kd.int .i64))).sz = 1 from rfl, drop_take_one _ j (enc i) (by rw [List.getElem?_map, hdj]; rfl)]
    have hrj : (sortR l0)[j]? = some (l0.getD i.val []) := by rw [← hsort, List.getElem?_map, hdj]; rfl
    rw [Kd.zip_at hrj] at hj
    obtain rfl := Option.some.inj hj
    have h2 := hmv i _ hg
    refine (Kd.slice 3 (Kd.int .i64)).M_mono ?_ h2
    intro k_ hk
    refine ⟨hk.1, ?_⟩
    have hfk : f k_ < n := by rw [hk.2]; exact i.isLt
    dsimp only
    rw [dif_pos hfk, show (⟨f k_, hfk⟩ : Fin n) = i from Fin.ext hk.2, ← hi]
    exact hnd.idxOf_getElem j (by omega)

/-! ### impl_AllComplete: function 53 -/
mutual
def impl_AllComplete.l0 : Nat → List (List Int) → Int → Int → Int → List (List Int) → Option ((List (List Int)))
 | 0, _, _, _, _, _ => none
 | k + 1, x3, x14, x15, x409000, x409001 => if x15 < x14 then (impl_AllComplete.l1 k x3 x15 (([] : List Int)) x14 x15 x409000 0 x409000 x409001) else ((slices_SortFunc_int_int.f k x3 81).bind fun t413 => (some t413))
def impl_AllComplete.l1 : Nat → List (List Int) → Int → List Int → Int → Int → Int → Int → Int → List (List Int) → Option ((List (List Int)))
 | 0, _, _, _, _, _, _, _, _, _ => none
 | k + 1, x3, x4, x5, x14, x15, x20, x21, x409000, x409001 => if x21 < x20 then (if 0 ≤ x21 then (if (Go.bits .and .i64 (shr .i64 x4 x21) 1) = 1 then (if x5.length < 17592186044416 then (impl_AllComplete.l1 k x3 x4 (x5 ++ [x21]) x14 x15 x20 (wrap64 (x21 + 1)) x409000 x409001) else (none)) else (impl_AllComplete.l1 k x3 x4 x5 x14 x15 x20 (wrap64 (x21 + 1)) x409000 x409001)) else (none)) else ((impl_IsComplete.f k x409000 x409001 x5).bind fun t420 => (if t420 = true then (if x3.length < 5864062014805 then (impl_AllComplete.l0 k (x3 ++ [x5]) x14 (wrap64 (x15 + 1)) x409000 x409001) else (none)) else (impl_AllComplete.l0 k x3 x14 (wrap64 (x15 + 1)) x409000 x409001)))
end
def impl_AllComplete.f (k : Nat) (a0_0 : Int) (l0_1 : List (List Int)) : Option ((List (List Int))) := (some (([] : List (List Int)) : List (List Int))).bind fun y409 => ((impl_IsGraph.f k a0_0 l0_1).bind fun t412 => (if t412 = true then (if 0 ≤ a0_0 then (impl_AllComplete.l0 k y409 (shl .i64 1 a0_0) 0 a0_0 l0_1) else (none)) else (some y409)))
theorem impl_AllComplete.mono_l : ∀ k, (∀ y0 y1 y2 y3 y4, LeO (impl_AllComplete.l0 k y0 y1 y2 y3 y4) (impl_AllComplete.l0 (k + 1) y0 y1 y2 y3 y4)) ∧ (∀ y0 y1 y2 y3 y4 y5 y6 y7 y8, LeO (impl_AllComplete.l1 k y0 y1 y2 y3 y4 y5 y6 y7 y8) (impl_AllComplete.l1 (k + 1) y0 y1 y2 y3 y4 y5 y6 y7 y8))
 | 0 => ⟨fun _ _ _ _ _ r h => by simp [impl_AllComplete.l0] at h, fun _ _ _ _ _ _ _ _ _ r h => by simp [impl_AllComplete.l1] at h⟩
 | k + 1 => by
  obtain ⟨ih0, ih1⟩ := impl_AllComplete.mono_l k
  refine ⟨?_, ?_⟩
  ·intro y0 y1 y2 y3 y4
   unfold impl_AllComplete.l0
   repeat' first
   | (with_reducible exact ih0 _ _ _ _ _)
   | (with_reducible exact ih1 _ _ _ _ _ _ _ _ _)
   | (with_reducible exact impl_IsComplete.mono _ _ _ _)
   | (with_reducible exact impl_IsGraph.mono _ _ _)
   | (with_reducible exact slices_SortFunc_int_int.mono _ _ _)
   | (with_reducible exact Zs _)
   | (with_reducible exact Zg _)
   | (with_reducible refine Zn ?_ ?_)
   | (with_reducible refine Zh ?_ (fun _ => ?_))
   | exact ih0 _ _ _ _ _
   | exact ih1 _ _ _ _ _ _ _ _ _
   | exact impl_IsComplete.mono _ _ _ _
   | exact impl_IsGraph.mono _ _ _
   | exact slices_SortFunc_int_int.mono _ _ _
   | exact Zg _
   | refine Zn ?_ ?_
   | refine Zh ?_ (fun _ => ?_)
  ·intro y0 y1 y2 y3 y4 y5 y6 y7 y8
   unfold impl_AllComplete.l1
   repeat' first
   | (with_reducible exact ih0 _ _ _ _ _)
   | (with_reducible exact ih1 _ _ _ _ _ _ _ _ _)
   | (with_reducible exact impl_IsComplete.mono _ _ _ _)
   | (with_reducible exact impl_IsGraph.mono _ _ _)
   | (with_reducible exact slices_SortFunc_int_int.mono _ _ _)
   | (with_reducible exact Zs _)
   | (with_reducible exact Zg _)
   | (with_reducible refine Zn ?_ ?_)
   | (with_reducible refine Zh ?_ (fun _ => ?_))
   | exact ih0 _ _ _ _ _
   | exact ih1 _ _ _ _ _ _ _ _ _
   | exact impl_IsComplete.mono _ _ _ _
   | exact impl_IsGraph.mono _ _ _
   | exact slices_SortFunc_int_int.mono _ _ _
   | exact Zg _
   | refine Zn ?_ ?_
   | refine Zh ?_ (fun _ => ?_)
theorem impl_AllComplete.mono : ∀ a0 a1 k, LeO (impl_AllComplete.f k a0 a1) (impl_AllComplete.f (k + 1) a0 a1) := by
 intro a0 a1 k
 obtain ⟨ih0, ih1⟩ := impl_AllComplete.mono_l k
 unfold impl_AllComplete.f
 repeat' first
   | (with_reducible exact ih0 _ _ _ _ _)
   | (with_reducible exact ih1 _ _ _ _ _ _ _ _ _)
   | (with_reducible exact impl_IsComplete.mono _ _ _ _)
   | (with_reducible exact impl_IsGraph.mono _ _ _)
   | (with_reducible exact slices_SortFunc_int_int.mono _ _ _)
   | (with_reducible exact Zs _)
   | (with_reducible exact Zg _)
   | (with_reducible refine Zn ?_ ?_)
   | (with_reducible refine Zh ?_ (fun _ => ?_))
   | exact ih0 _ _ _ _ _
   | exact ih1 _ _ _ _ _ _ _ _ _
   | exact impl_IsComplete.mono _ _ _ _
   | exact impl_IsGraph.mono _ _ _
   | exact slices_SortFunc_int_int.mono _ _ _
   | exact Zg _
   | refine Zn ?_ ?_
   | refine Zh ?_ (fun _ => ?_)
set_option maxHeartbeats 8000000 in
set_option maxRecDepth 100000 in
theorem impl_AllComplete.calls (k : Nat) (a0_0 : Int) (A0_1 : Option Addr) (c0_1 : Nat) (l0_1 : List (List Int)) (r : List (List Int)) (w : World) (hr0_1 : Kd.C (Kd.slice 3 (Kd.int .i64)) w A0_1 l0_1.length l0_1) (hc0_1 : l0_1.length ≤ c0_1) (h : impl_AllComplete.f k a0_0 l0_1 = some r) :
  Calls Try.prog 53 #[.agg #[.int .i64 a0_0, .slice A0_1 l0_1.length c0_1]] w fun e w' => ∃ v0_ : Value, e = .returned (v0_) ∧ Kd.S (Kd.slice 3 (Kd.int .i64)) 38 w' w.heap.size (fun _ => True) v0_ r ∧ Below w.heap.size w w' := by
 have hu27 := Try.underlying27
 have HR0_1 := Aside0.mk hr0_1
 have HC0_1 := Aside0.mk hc0_1
 clear hr0_1 hc0_1
 have HB := Aside0.mk (Below.refl w.heap.size w)
 have H : ((some (([] : List (List Int)) : List (List Int))).bind fun y409 => ((impl_IsGraph.f k a0_0 l0_1).bind fun t412 => (if t412 = true then (if 0 ≤ a0_0 then (impl_AllComplete.l0 k y409 (shl .i64 1 a0_0) 0 a0_0 l0_1) else (none)) else (some y409)))) = some r := h
 clear h
 obtain ⟨y409, hy409⟩ : ∃ y_ : List (List Int), y_ = (([] : List (List Int))) := ⟨_, rfl⟩
 replace H : ((impl_IsGraph.f k a0_0 l0_1).bind fun t412 => (if t412 = true then (if 0 ≤ a0_0 then (impl_AllComplete.l0 k y409 (shl .i64 1 a0_0) 0 a0_0 l0_1) else (none)) else (some y409))) = some r := hy_ hy409 H
 have Ny409 := Aside0.mk hy409
 clear hy409
 replace H := Option.bind_eq_some_iff.mp H
 obtain ⟨t412, A20, H⟩ := H
 replace H : (if t412 = true then (if 0 ≤ a0_0 then (impl_AllComplete.l0 k y409 (shl .i64 1 a0_0) 0 a0_0 l0_1) else (none)) else (some y409)) = some r := H
 have A2 := Aside0.mk A20
 clear A20
 by_cases c3 : t412 = true
 ·subst c3
  have H1 : (if 0 ≤ a0_0 then (impl_AllComplete.l0 k y409 (shl .i64 1 a0_0) 0 a0_0 l0_1) else (none)) = some r := by rw [if_pos rfl] at H; exact H
  clear H
  have H := H1
  clear H1
  by_cases c4 : 0 ≤ a0_0
  ·rw [if_pos c4] at H
   have c4b0 := eq_true c4
   have c4b1 : decide (0 ≤ a0_0) = true := decide_eq_true c4
   clear c4
   obtain ⟨ji5, hji5⟩ : ∃ j_ : Int, (shl .i64 1 a0_0) = j_ := ⟨_, rfl⟩
   replace H : (impl_AllComplete.l0 k y409 ji5 0 a0_0 l0_1) = some r := by first | (rw [hji5] at H; exact H) | (simp only [hji5] at H ⊢; exact H)
   (try rw [hji5] at A2)
   have hji5_ : (IntKind.i64.wrap (1 * 2 ^ min a0_0.toNat 64)) = ji5 := hji5
   have hji5z : a0_0 ≤ 64 → (IntKind.i64.wrap (1 * 2 ^ a0_0.toNat)) = ji5 := shl_small hji5
   have hji5u : (IntKind.i64.wrap (2 ^ min a0_0.toNat 64)) = ji5 := by have h_ := hji5_; rw [Int.one_mul] at h_; exact h_
   have hji5v : a0_0 ≤ 64 → (IntKind.i64.wrap (2 ^ a0_0.toNat)) = ji5 := fun hle_ => by have h_ := hji5z hle_; rw [Int.one_mul] at h_; exact h_
   have hji5y : (wrap64 (1 * 2 ^ min a0_0.toNat 64)) = ji5 := (Zk _).symm.trans hji5_
   have hji5x : a0_0 ≤ 64 → (wrap64 (1 * 2 ^ a0_0.toNat)) = ji5 := fun h_ => (Zk _).symm.trans (hji5z h_)
   have H' := Aside0.mk H
   clear H
   go_enter Try.func53, Try.ntmps53
   go_wp2_with (first | ((with_reducible refine Zr (N := 1) rfl ?_); refine Zu ?hg (N := 1) ?hd (cs := #[.int .i64 a0_0, .slice A0_1 l0_1.length c0_1]) (t := 27) ?hr ?_; (case hd => rfl); (case hg => rfl); (case hr => first | (go_simp; done) | (go_simp; rfl)); intro gb408 hg w6 hbox hb; have n0_ := Aside0.mk (Zf hb_ hb); have n1_ := Aside0.mk (hbox); have n2_ := Aside0.mk ((hz_ hg : w.heap.size ≤ gb408)); have n3_ := Aside0.mk ((hz_ hg : w.heap.size ≤ gb408)); clear HB; have HB := n0_; have BK408 := n1_; have GW408 := n2_; have GE408 := n3_; clear n0_ n1_ n2_ n3_; clear hb hbox hg) | ((with_reducible refine Zr (N := 7) rfl ?_); refine Kd.S_lit (Kd.slice 3 (Kd.int .i64)) _ 38 ?hg (N := 7) ?hd (xs := ([] : List (List Int))) (inner := []) (ok := fun _ => True) (okp := fun _ => True) ?hr ?hp (fun _ hk => hk) trivial (Below.refl _ _) (Nat.le_refl _) (by simp) ?_; (case hd => rfl); (case hg => rfl); (case hr => first | (go_simp; done) | (go_simp; rfl)); (case hp => exact (Reps.none _ _)); intro v410 w7 ho8 hb hg_ hnew_; clear hg_ hnew_; (first | rw [← Ny409.out] at ho8 | (simp only [Int.reduceToNat] at ho8; rw [← Ny409.out] at ho8)); have n0_ := Aside0.mk (Kd.S_lower ho8 (Zi hb_)); have n1_ := Aside0.mk (Zj (g := gb408) (o := .cells #[.int .i64 a0_0, .slice A0_1 l0_1.length c0_1] 27 (0, 0)) (bk_ BK408.out) hb); have n2_ := Aside0.mk (Zf hb_ hb); clear BK408; clear HB; have HO411 := n0_; have BK408 := n1_; have HB := n2_; clear n0_ n1_ n2_; clear hb ho8; have hcz9_0 : w7.cell? ⟨gb408, 0, none⟩ = some (.int .i64 a0_0) := (Ze BK408.out 0).trans rfl; have hcz9_1 : w7.cell? ⟨gb408, 1, none⟩ = some (.slice A0_1 l0_1.length c0_1) := (Ze BK408.out 1).trans rfl; have hfz9_0 := Zd BK408.out 0; have hfz9_1 := Zd BK408.out 1) | ((with_reducible refine Zl (f := 58) rfl ?_); refine Zx (some 9) rfl rfl Try.func58 (by kernel_rfl) rfl #[.agg #[.int .i64 a0_0, .slice A0_1 l0_1.length c0_1]] rfl ar_ ?_; (with_reducible refine (impl_IsGraph.calls k a0_0 _ _ l0_1 true _ ?side1 ?side2 A2.out).mono ?_); (case side1 => exact cb_ HR0_1.out); (case side2 => exact HC0_1.out); rintro e w10 ⟨rfl, hb⟩; refine ⟨_, rfl, ?_⟩; have n0_ := Aside0.mk (Kd.S_below (rS_ HO411.out) hb); have n1_ := Aside0.mk (Zj (g := gb408) (o := .cells #[.int .i64 a0_0, .slice A0_1 l0_1.length c0_1] 27 (0, 0)) (bk_ BK408.out) hb); have n2_ := Aside0.mk (Zf hb_ hb); clear HO411; clear BK408; clear HB; have HO411 := n0_; have BK408 := n1_; have HB := n2_; clear n0_ n1_ n2_; (try clear hb); (try clear hb2); (try clear hk); (try clear hi); have hcz11_0 : w10.cell? ⟨gb408, 0, none⟩ = some (.int .i64 a0_0) := (Ze BK408.out 0).trans rfl; have hcz11_1 : w10.cell? ⟨gb408, 1, none⟩ = some (.slice A0_1 l0_1.length c0_1) := (Ze BK408.out 1).trans rfl; have hfz11_0 := Zd BK408.out 0; have hfz11_1 := Zd BK408.out 1))
   go_loopg [3, 15] k (fun kq v3 v15 w' => ∃ (x3_1 : List (List Int)) (x15_1 : Int), v15 = .int .i64 x15_1 ∧ Aside0 (impl_AllComplete.l0 kq x3_1 ji5 x15_1 a0_0 l0_1 = some r) ∧ Aside0 (kq ≤ k) ∧ Aside0 (Kd.S (Kd.slice 3 (Kd.int .i64)) 38 w' w.heap.size (fun _ => True) v3 x3_1) ∧ Aside0 (w'.heap[gb408]? = some (.cells #[.int .i64 a0_0, (.slice A0_1 l0_1.length c0_1)] 27 (0, 0))) ∧ Aside0 (Below w.heap.size w w'))
   case atStart => exact ⟨(y409), (0), sm_, H', ⟨Nat.le_refl _⟩, ⟨rS_ HO411.out⟩, ⟨bk_ BK408.out⟩, ⟨hb_⟩⟩
   case round =>
    clear H'
    try clear p2
    try clear c3
    try clear c4
    try clear c4b0
    try clear c4b1
    try clear c5
    try clear p6
    try clear hcz11_0
    try clear hcz11_1
    try clear hcz9_0
    try clear hcz9_1
    try clear hfz11_0
    try clear hfz11_1
    try clear hfz9_0
    try clear hfz9_1
    obtain ⟨x3_1, x15_1, rfl, HA, HK1, HO_3, BK408, HB⟩ := hrel
    cases gk with
    | zero => exact absurd HA.out (by simp [impl_AllComplete.l0])
    | succ k1 =>
     have H := HA.out
     clear HA
     simp only [impl_AllComplete.l0] at H
     by_cases c12 : x15_1 < ji5
     ·rw [if_pos c12] at H
      have c12b0 : decide (x15_1 < ji5) = true := decide_eq_true c12
      clear c12
      obtain ⟨y414, hy414⟩ : ∃ y_ : List Int, y_ = (([] : List Int)) := ⟨_, rfl⟩
      replace H : (impl_AllComplete.l1 k1 x3_1 x15_1 y414 ji5 x15_1 a0_0 0 a0_0 l0_1) = some r := hy_ hy414 H
      have Ny414 := Aside0.mk hy414
      clear hy414
      have H' := Aside0.mk H
      clear H
      go_wp2_with (first | ((with_reducible refine Zr (N := 18) rfl ?_); refine Kd.R_lit (Kd.int .i64) _ 3 ?hg (N := 18) ?hd (xs := ([] : List Int)) (inner := []) (ok := fun _ => True) (okp := fun _ => True) ?hr ?hp (fun _ hk => hk) trivial (Below.refl _ _) (Nat.le_refl _) (by simp) ?_; (case hd => rfl); (case hg => rfl); (case hr => first | (go_simp; done) | (go_simp; rfl)); (case hp => exact (Reps.none _ _)); intro v415 w13 ho14 hb hg_ hnew_; clear hg_ hnew_; (first | rw [← Ny414.out] at ho14 | (simp only [Int.reduceToNat] at ho14; rw [← Ny414.out] at ho14)); have n0_ := Aside0.mk (Kd.S_elder' (rS_ HO_3.out) (Kd.R_base ho14) hb); have n1_ := Aside0.mk (Kd.R_lower ho14 (Zi hb_)); have n2_ := Aside0.mk (Zj (g := gb408) (o := .cells #[.int .i64 a0_0, .slice A0_1 l0_1.length c0_1] 27 (0, 0)) (bk_ BK408.out) hb); have n3_ := Aside0.mk (Zf hb_ hb); clear HO_3; clear BK408; clear HB; have HO_3 := n0_; have HO416 := n1_; have BK408 := n2_; have HB := n3_; clear n0_ n1_ n2_ n3_; clear hb ho14; have hcz15_0 : w13.cell? ⟨gb408, 0, none⟩ = some (.int .i64 a0_0) := (Ze BK408.out 0).trans rfl; have hcz15_1 : w13.cell? ⟨gb408, 1, none⟩ = some (.slice A0_1 l0_1.length c0_1) := (Ze BK408.out 1).trans rfl; have hfz15_0 := Zd BK408.out 0; have hfz15_1 := Zd BK408.out 1))
      go_loopg [5, 21] k1 (fun kq v5 v21 w' => ∃ (x5_2 : List Int) (x21_2 : Int), v21 = .int .i64 x21_2 ∧ Aside0 (impl_AllComplete.l1 kq x3_1 x15_1 x5_2 ji5 x15_1 a0_0 x21_2 a0_0 l0_1 = some r) ∧ Aside0 (kq ≤ k1) ∧ Aside0 (Kd.S (Kd.slice 3 (Kd.int .i64)) 38 w' w.heap.size (fun k_ => some k_ ≠ (v5 : Value).ownBlock) u3 x3_1) ∧ Aside0 (Kd.R (Kd.int .i64) 3 w' w.heap.size (fun _ => True) v5 x5_2) ∧ Aside0 (w'.heap[gb408]? = some (.cells #[.int .i64 a0_0, (.slice A0_1 l0_1.length c0_1)] 27 (0, 0))) ∧ Aside0 (Below w.heap.size w w'))
      case atStart => exact ⟨(y414), (0), sm_, H', ⟨Nat.le_refl _⟩, ⟨by (with_reducible repeat (first | apply Kd.S_alloc | apply Kd.S_drewN | apply Kd.S_drew)); exact Kd.S_mono HO_3.out (fun _ hk => hk.2)⟩, ⟨rR_ HO416.out⟩, ⟨bk_ BK408.out⟩, ⟨hb_⟩⟩
      case round =>
       clear H'
       try clear c1
       try clear p2
       try clear c3
       try clear c4
       try clear c4b0
       try clear c4b1
       try clear c5
       try clear p6
       try clear c12
       try clear c12b0
       try clear hcz11_0
       try clear hcz11_1
       try clear hcz15_0
       try clear hcz15_1
       try clear hcz9_0
       try clear hcz9_1
       try clear hfz11_0
       try clear hfz11_1
       try clear hfz15_0
       try clear hfz15_1
       try clear hfz9_0
       try clear hfz9_1
       try clear p2
       try clear p6
       obtain ⟨x5_2, x21_2, rfl, HA, HK2, HO_3, HO_5, BK408, HB⟩ := hrel
       cases gk with
       | zero => exact absurd HA.out (by simp [impl_AllComplete.l1])
       | succ k2 =>
        have H := HA.out
        clear HA
        simp only [impl_AllComplete.l1] at H
        by_cases c16 : x21_2 < a0_0
        ·rw [if_pos c16] at H
         have c16b0 : decide (x21_2 < a0_0) = true := decide_eq_true c16
         clear c16
         by_cases c17 : 0 ≤ x21_2
         ·rw [if_pos c17] at H
          have c17b0 := eq_true c17
          have c17b1 : decide (0 ≤ x21_2) = true := decide_eq_true c17
          clear c17
          obtain ⟨ji18, hji18⟩ : ∃ j_ : Int, (shr .i64 x15_1 x21_2) = j_ := ⟨_, rfl⟩
          replace H : (if (Go.bits .and .i64 (ji18) 1) = 1 then (if x5_2.length < 17592186044416 then (impl_AllComplete.l1 k2 x3_1 x15_1 (x5_2 ++ [x21_2]) ji5 x15_1 a0_0 (wrap64 (x21_2 + 1)) a0_0 l0_1) else (none)) else (impl_AllComplete.l1 k2 x3_1 x15_1 x5_2 ji5 x15_1 a0_0 (wrap64 (x21_2 + 1)) a0_0 l0_1)) = some r := by first | (rw [hji18] at H; exact H) | (simp only [hji18] at H ⊢; exact H)
          have hji18_ : (x15_1 / 2 ^ min x21_2.toNat 64) = ji18 := hji18
          have hji18z : x21_2 ≤ 64 → (x15_1 / 2 ^ x21_2.toNat) = ji18 := shr_small hji18
          by_cases c19 : (Go.bits .and .i64 (ji18) 1) = 1
          ·rw [if_pos c19] at H
           have c19b0 : ((Go.bits .and .i64 (ji18) 1) == 1) = true := beq_iff_eq.mpr c19
           have c19b1 : ((Go.bits .and .i64 (ji18) 1) != 1) = false := bne_eq_false_iff_eq.mpr c19
           clear c19
           by_cases c20 : x5_2.length < 17592186044416
           ·rw [if_pos c20] at H
            have LMc20 := Aside0.mk c20
            clear c20
            obtain ⟨y417, hy417⟩ : ∃ y_ : List Int, y_ = (x5_2 ++ [x21_2]) := ⟨_, rfl⟩
            replace H : (impl_AllComplete.l1 k2 x3_1 x15_1 y417 ji5 x15_1 a0_0 (wrap64 (x21_2 + 1)) a0_0 l0_1) = some r := hy_ hy417 H
            have Ny417 := Aside0.mk hy417
            clear hy417
            have H' := Aside0.mk H
            clear H
            go_wp2_with (first | ((with_reducible refine gate_builtin (b := .append) (xs := #[.tmp 29, .tmp 31]) rfl ?_); at_builtin; refine Kd.R_append (Kd.int .i64) (w0 := w) w.heap.size rfl (.tmp 29) (.tmp 31) 38 3 (.int .i64 0) 8 rfl Try.underlying38 info3 rfl (by decide) (by omega) u5 x5_2 x21_2 [.int .i64 x21_2] (fun _ => True) (fun _ => False) rfl rfl ?aP (fun _ hk => hk.elim) ?aF ?aO ?aB ?aS ?aL ?_; (case aP => exact rfl); (case aB => exact hb_); (case aF => exact (fun _ _ => trivial)); (case aO => exact (rR_ HO_5.out)); (case aS => exact (Zi hb_)); (case aL => have := LMc20.out; omega); intro v418 w21 ho hb hg hat; rw [← Ny417.out] at ho; have n0_ := Aside0.mk (Kd.S_after (ok := (fun _ => True)) (by (with_reducible repeat (first | apply Kd.S_alloc | apply Kd.S_drewN | apply Kd.S_drew)); exact Kd.S_mono HO_3.out (fun _ hk => ⟨trivial, hk⟩)) hg hat); have n1_ := Aside0.mk (blk_grown (g := gb408) (o := .cells #[.int .i64 a0_0, .slice A0_1 l0_1.length c0_1] 27 (0, 0)) (bk_ BK408.out) hg (Kd.R_ne HO_5.out BK408.out (by decide))); have n2_ := Aside0.mk (hb); have n3_ := Aside0.mk (ho); clear HO_3; clear BK408; clear HB; clear HO_5; have HO_3 := n0_; have BK408 := n1_; have HB := n2_; have HO419 := n3_; clear n0_ n1_ n2_ n3_; clear ho hb hg hat))
            go_roundg k2
            case measure => have := HK1.out; have := HK2.out; omega
            case rel => exact ⟨(y417), (wrap64 (x21_2 + 1)), sm_, H', ⟨by have := HK1.out; have := HK2.out; omega⟩, ⟨by (with_reducible repeat (first | apply Kd.S_alloc | apply Kd.S_drewN | apply Kd.S_drew)); exact Kd.S_mono HO_3.out (fun _ hk => hk.2)⟩, ⟨rR_ HO419.out⟩, ⟨bk_ BK408.out⟩, ⟨hb_⟩⟩
           ·rw [if_neg c20] at H
            exact absurd H (by simp)
          ·rw [if_neg c19] at H
           have c19b0 : ((Go.bits .and .i64 (ji18) 1) == 1) = false := beq_eq_false_iff_ne.mpr c19
           have c19b1 : ((Go.bits .and .i64 (ji18) 1) != 1) = true := bne_iff_ne.mpr c19
           have H' := Aside0.mk H
           clear H
           go_wp2
           go_roundg k2
           case measure => have := HK1.out; have := HK2.out; omega
           case rel => exact ⟨(x5_2), (wrap64 (x21_2 + 1)), sm_, H', ⟨by have := HK1.out; have := HK2.out; omega⟩, ⟨rS_ HO_3.out⟩, ⟨rR_ HO_5.out⟩, ⟨bk_ BK408.out⟩, ⟨hb_⟩⟩
         ·rw [if_neg c17] at H
          exact absurd H (by simp)
        ·rw [if_neg c16] at H
         have c16b0 : decide (x21_2 < a0_0) = false := decide_eq_false c16
         clear c16
         replace H := Option.bind_eq_some_iff.mp H
         obtain ⟨t420, A220, H⟩ := H
         replace H : (if t420 = true then (if x3_1.length < 5864062014805 then (impl_AllComplete.l0 k2 (x3_1 ++ [x5_2]) ji5 (wrap64 (x15_1 + 1)) a0_0 l0_1) else (none)) else (impl_AllComplete.l0 k2 x3_1 ji5 (wrap64 (x15_1 + 1)) a0_0 l0_1)) = some r := H
         have A22 := Aside0.mk A220
         clear A220
         by_cases c23 : t420 = true
         ·subst c23
          have H1 : (if x3_1.length < 5864062014805 then (impl_AllComplete.l0 k2 (x3_1 ++ [x5_2]) ji5 (wrap64 (x15_1 + 1)) a0_0 l0_1) else (none)) = some r := by rw [if_pos rfl] at H; exact H
          clear H
          have H := H1
          clear H1
          by_cases c24 : x3_1.length < 5864062014805
          ·rw [if_pos c24] at H
           have LMc24 := Aside0.mk c24
           clear c24
           obtain ⟨y421, hy421⟩ : ∃ y_ : List (List Int), y_ = (x3_1 ++ [x5_2]) := ⟨_, rfl⟩
           replace H : (impl_AllComplete.l0 k2 y421 ji5 (wrap64 (x15_1 + 1)) a0_0 l0_1) = some r := hy_ hy421 H
           have Ny421 := Aside0.mk hy421
           clear hy421
           have H' := Aside0.mk H
           clear H
           have hcz25_0 : wr.cell? ⟨gb408, 0, none⟩ = some (.int .i64 a0_0) := (Ze BK408.out 0).trans rfl
           have hcz25_1 : wr.cell? ⟨gb408, 1, none⟩ = some (.slice A0_1 l0_1.length c0_1) := (Ze BK408.out 1).trans rfl
           have hfz25_0 := Zd BK408.out 0
           have hfz25_1 := Zd BK408.out 1
           obtain ⟨Ao26, co26, eo26⟩ := Kd.R_slice HO_5.out
           subst eo26
           go_wp2_with (first | ((with_reducible refine Zl (f := 79) rfl ?_); refine Zx (some 36) rfl rfl Try.func79 (by kernel_rfl) rfl #[.agg #[.int .i64 a0_0, .slice A0_1 l0_1.length c0_1], .slice Ao26 x5_2.length co26] rfl ar_ ?_; (with_reducible refine (impl_IsComplete.calls k2 a0_0 _ _ l0_1 _ _ x5_2 true _ ?side1 ?side2 ?side3 ?side4 A22.out).mono ?_); (case side1 => exact cb_ HR0_1.out); (case side2 => exact HC0_1.out); (case side3 => repeat (first | exact (Zw HO_5.out).2.2 | (with_reducible refine Zv ?_ _) | (with_reducible refine Zt ?_ _) | (with_reducible refine Zy ?_))); (case side4 => exact (Zw HO_5.out).2.1); rintro e w27 ⟨rfl, hb⟩; refine ⟨_, rfl, ?_⟩; have n0_ := Aside0.mk (Kd.S_below (rS_ HO_3.out) hb); have n1_ := Aside0.mk (Kd.R_below (rR_ HO_5.out) hb); have n2_ := Aside0.mk (Zj (g := gb408) (o := .cells #[.int .i64 a0_0, .slice A0_1 l0_1.length c0_1] 27 (0, 0)) (bk_ BK408.out) hb); have n3_ := Aside0.mk (Zf hb_ hb); clear HO_3; clear HO_5; clear BK408; clear HB; have HO_3 := n0_; have HO_5 := n1_; have BK408 := n2_; have HB := n3_; clear n0_ n1_ n2_ n3_; (try clear hb); (try clear hb2); (try clear hk); (try clear hi)) | ((with_reducible refine gate_builtin (b := .append) (xs := #[.tmp 37, .tmp 39]) rfl ?_); at_builtin; refine Kd.S_append (Kd.slice 3 (Kd.int .i64)) (w0 := w) w.heap.size rfl (.tmp 37) (.tmp 39) 22 38 (.slice none 0 0) 24 rfl Try.underlying22 info38 rfl (by decide) (by omega) u3 x3_1 x5_2 [.slice Ao26 x5_2.length co26] (fun _ => True) (fun k_ => some k_ = (.slice Ao26 x5_2.length co26 : Value).ownBlock) rfl rfl ?aP (fun k_ hk_ => ((Kd.R_mono (ok' := fun k_ => ((fun _ => True)) k_ ∧ some k_ ≠ (u3 : Value).ownBlock) (Kd.R_apart' (HO_5.out) (Kd.S_typed HO_3.out) (by decide)) (fun k_ hk => ⟨trivial, hk.2⟩))).1 k_ hk_.symm) ?aF ?aO ?aB ?aS ?aL ?_; (case aP => exact Kd.M_row (Kd.R_mono (Kd.R_tight rfl (Kd.R_mono (ok' := fun k_ => ((fun _ => True)) k_ ∧ some k_ ≠ (u3 : Value).ownBlock) (Kd.R_apart' (HO_5.out) (Kd.S_typed HO_3.out) (by decide)) (fun k_ hk => ⟨trivial, hk.2⟩))) (fun _ h_ => h_))); (case aB => exact hb_); (case aF => exact (fun _ _ => trivial)); (case aO => exact (by (with_reducible repeat (first | apply Kd.S_alloc | apply Kd.S_drewN | apply Kd.S_drew)); exact Kd.S_mono HO_3.out (fun k_ hk => ⟨trivial, fun e_ => hk e_⟩))); (case aS => exact (Zi hb_)); (case aL => have := LMc24.out; omega); intro v422 w28 ho hb hg hat; rw [← Ny421.out] at ho; have n0_ := Aside0.mk (blk_grown (g := gb408) (o := .cells #[.int .i64 a0_0, .slice A0_1 l0_1.length c0_1] 27 (0, 0)) (bk_ BK408.out) hg (Kd.S_ne HO_3.out BK408.out (by decide))); have n1_ := Aside0.mk (hb); have n2_ := Aside0.mk (ho); clear BK408; clear HB; clear HO_3; clear HO_5; have BK408 := n0_; have HB := n1_; have HO423 := n2_; clear n0_ n1_ n2_; clear ho hb hg hat))
           go_roundg k2
           case measure => have := HK1.out; have := HK2.out; omega
           case rel => exact ⟨(y421), (wrap64 (x15_1 + 1)), sm_, H', ⟨by have := HK1.out; have := HK2.out; omega⟩, ⟨rS_ HO423.out⟩, ⟨bk_ BK408.out⟩, ⟨hb_⟩⟩
          ·rw [if_neg c24] at H
           exact absurd H (by simp)
         ·replace c23 := Bool.eq_false_iff.mpr c23
          subst c23
          have H1 : (impl_AllComplete.l0 k2 x3_1 ji5 (wrap64 (x15_1 + 1)) a0_0 l0_1) = some r := by rw [if_neg (show ¬ (false = true) by decide)] at H; exact H
          clear H
          have H := H1
          clear H1
          have H' := Aside0.mk H
          clear H
          have hcz29_0 : wr.cell? ⟨gb408, 0, none⟩ = some (.int .i64 a0_0) := (Ze BK408.out 0).trans rfl
          have hcz29_1 : wr.cell? ⟨gb408, 1, none⟩ = some (.slice A0_1 l0_1.length c0_1) := (Ze BK408.out 1).trans rfl
          have hfz29_0 := Zd BK408.out 0
          have hfz29_1 := Zd BK408.out 1
          obtain ⟨Ao30, co30, eo30⟩ := Kd.R_slice HO_5.out
          subst eo30
          go_wp2_with (first | ((with_reducible refine Zl (f := 79) rfl ?_); refine Zx (some 36) rfl rfl Try.func79 (by kernel_rfl) rfl #[.agg #[.int .i64 a0_0, .slice A0_1 l0_1.length c0_1], .slice Ao30 x5_2.length co30] rfl ar_ ?_; (with_reducible refine (impl_IsComplete.calls k2 a0_0 _ _ l0_1 _ _ x5_2 false _ ?side1 ?side2 ?side3 ?side4 A22.out).mono ?_); (case side1 => exact cb_ HR0_1.out); (case side2 => exact HC0_1.out); (case side3 => repeat (first | exact (Zw HO_5.out).2.2 | (with_reducible refine Zv ?_ _) | (with_reducible refine Zt ?_ _) | (with_reducible refine Zy ?_))); (case side4 => exact (Zw HO_5.out).2.1); rintro e w31 ⟨rfl, hb⟩; refine ⟨_, rfl, ?_⟩; have n0_ := Aside0.mk (Kd.S_below (rS_ HO_3.out) hb); have n1_ := Aside0.mk (Kd.R_below (rR_ HO_5.out) hb); have n2_ := Aside0.mk (Zj (g := gb408) (o := .cells #[.int .i64 a0_0, .slice A0_1 l0_1.length c0_1] 27 (0, 0)) (bk_ BK408.out) hb); have n3_ := Aside0.mk (Zf hb_ hb); clear HO_3; clear HO_5; clear BK408; clear HB; have HO_3 := n0_; have HO_5 := n1_; have BK408 := n2_; have HB := n3_; clear n0_ n1_ n2_ n3_; (try clear hb); (try clear hb2); (try clear hk); (try clear hi)))
          go_roundg k2
          case measure => have := HK1.out; have := HK2.out; omega
          case rel => exact ⟨(x3_1), (wrap64 (x15_1 + 1)), sm_, H', ⟨by have := HK1.out; have := HK2.out; omega⟩, ⟨by (with_reducible repeat (first | apply Kd.S_alloc | apply Kd.S_drewN | apply Kd.S_drew)); exact Kd.S_mono HO_3.out (fun _ hk => trivial)⟩, ⟨bk_ BK408.out⟩, ⟨hb_⟩⟩
     ·rw [if_neg c12] at H
      have c12b0 : decide (x15_1 < ji5) = false := decide_eq_false c12
      clear c12
      replace H := Option.bind_eq_some_iff.mp H
      obtain ⟨t413, A320, H⟩ := H
      replace H : (some t413) = some r := H
      have A32 := Aside0.mk A320
      clear A320
      obtain rfl := Option.some.inj H
      obtain ⟨Ao33, co33, eo33⟩ := Kd.S_slice HO_3.out
      subst eo33
      go_wp2_with (first | (go_at_call 80; (with_reducible refine (slices_SortFunc_int_int.calls k1 (fun k_ => True) (.slice Ao33 x3_1.length co33) x3_1 81 t413 w _ ?side1 ?side2 A32.out).mono ?_); (case side1 => repeat (first | (with_reducible first | exact HB.out | apply below_alloc | apply pw_below_drewN | apply below_drew1 | refine below_set ?_ GE408.out) | exact HB.out)); (case side2 => exact (Kd.S_mono (ok' := fun k_ => True) (HO_3.out) (fun _ _ => trivial))); rintro e w34 ⟨rfl, hy0, hb, hkp⟩; have n0_ := Aside0.mk (hy0); have n1_ := Aside0.mk (blk_kept (bk_ BK408.out) hkp (fun hs_ => (fun e_ => (Kd.R_ne (Kd.S_R HO_3.out) BK408.out (by decide)) e_) hs_)); have n2_ := Aside0.mk (hb); clear HO_3; clear BK408; clear HB; have HO_3 := n0_; have BK408 := n1_; have HB := n2_; clear n0_ n1_ n2_; (try clear hb); (try clear hkp); (try clear hy0)))
      go_ret
      exact ⟨_, by first | rfl | (simp [errW_none, errW_some] <;> rfl) | (simp only [← hji5]; first | rfl | (simp [errW_none, errW_some] <;> rfl)) | (simp [*, errW_none, errW_some] <;> rfl), rS_ HO_3.out, hb_⟩
  ·rw [if_neg c4] at H
   exact absurd H (by simp)
 ·replace c3 := Bool.eq_false_iff.mpr c3
  subst c3
  have H1 : (some y409) = some r := by rw [if_neg (show ¬ (false = true) by decide)] at H; exact H
  clear H
  have H := H1
  clear H1
  obtain rfl := Option.some.inj H
  go_enter Try.func53, Try.ntmps53
  go_wp2_with (first | ((with_reducible refine Zr (N := 1) rfl ?_); refine Zu ?hg (N := 1) ?hd (cs := #[.int .i64 a0_0, .slice A0_1 l0_1.length c0_1]) (t := 27) ?hr ?_; (case hd => rfl); (case hg => rfl); (case hr => first | (go_simp; done) | (go_simp; rfl)); intro gb408 hg w35 hbox hb; have n0_ := Aside0.mk (Zf hb_ hb); have n1_ := Aside0.mk (hbox); have n2_ := Aside0.mk ((hz_ hg : w.heap.size ≤ gb408)); have n3_ := Aside0.mk ((hz_ hg : w.heap.size ≤ gb408)); clear HB; have HB := n0_; have BK408 := n1_; have GW408 := n2_; have GE408 := n3_; clear n0_ n1_ n2_ n3_; clear hb hbox hg) | ((with_reducible refine Zr (N := 7) rfl ?_); refine Kd.S_lit (Kd.slice 3 (Kd.int .i64)) _ 38 ?hg (N := 7) ?hd (xs := ([] : List (List Int))) (inner := []) (ok := fun _ => True) (okp := fun _ => True) ?hr ?hp (fun _ hk => hk) trivial (Below.refl _ _) (Nat.le_refl _) (by simp) ?_; (case hd => rfl); (case hg => rfl); (case hr => first | (go_simp; done) | (go_simp; rfl)); (case hp => exact (Reps.none _ _)); intro v410 w36 ho37 hb hg_ hnew_; clear hg_ hnew_; (first | rw [← Ny409.out] at ho37 | (simp only [Int.reduceToNat] at ho37; rw [← Ny409.out] at ho37)); have n0_ := Aside0.mk (Kd.S_lower ho37 (Zi hb_)); have n1_ := Aside0.mk (Zj (g := gb408) (o := .cells #[.int .i64 a0_0, .slice A0_1 l0_1.length c0_1] 27 (0, 0)) (bk_ BK408.out) hb); have n2_ := Aside0.mk (Zf hb_ hb); clear BK408; clear HB; have HO411 := n0_; have BK408 := n1_; have HB := n2_; clear n0_ n1_ n2_; clear hb ho37; have hcz38_0 : w36.cell? ⟨gb408, 0, none⟩ = some (.int .i64 a0_0) := (Ze BK408.out 0).trans rfl; have hcz38_1 : w36.cell? ⟨gb408, 1, none⟩ = some (.slice A0_1 l0_1.length c0_1) := (Ze BK408.out 1).trans rfl; have hfz38_0 := Zd BK408.out 0; have hfz38_1 := Zd BK408.out 1) | ((with_reducible refine Zl (f := 58) rfl ?_); refine Zx (some 9) rfl rfl Try.func58 (by kernel_rfl) rfl #[.agg #[.int .i64 a0_0, .slice A0_1 l0_1.length c0_1]] rfl ar_ ?_; (with_reducible refine (impl_IsGraph.calls k a0_0 _ _ l0_1 false _ ?side1 ?side2 A2.out).mono ?_); (case side1 => exact cb_ HR0_1.out); (case side2 => exact HC0_1.out); rintro e w39 ⟨rfl, hb⟩; refine ⟨_, rfl, ?_⟩; have n0_ := Aside0.mk (Kd.S_below (rS_ HO411.out) hb); have n1_ := Aside0.mk (Zj (g := gb408) (o := .cells #[.int .i64 a0_0, .slice A0_1 l0_1.length c0_1] 27 (0, 0)) (bk_ BK408.out) hb); have n2_ := Aside0.mk (Zf hb_ hb); clear HO411; clear BK408; clear HB; have HO411 := n0_; have BK408 := n1_; have HB := n2_; clear n0_ n1_ n2_; (try clear hb); (try clear hb2); (try clear hk); (try clear hi)))
  go_ret
  exact ⟨_, er_, rS_ HO411.out, hb_⟩

-- NOT PRINTED: function 82 (slices_IndexFunc_int_int)

-- NOT PRINTED: function 54 (slices_ContainsFunc_int_int)

end Go.Proofs.Ytkmhkkhlbnhaaaa.PFnExactIsCertain
