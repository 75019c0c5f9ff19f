-- Written by a program of this session (hooks of mine on the print): Lean checks it.
import Derived.Test.YtdlobolnajcfnaaPFnPositionsx0
import Derived.Test.YtdlobolnajcfnaaPFnPositionsx2
import Derived.Test.YtdlobolnajcfnaaPFnPositionsx13
namespace Go.Proofs.Ytdlobolnajcfnaa.PFnPositions
open Go.RowKit Go.Proofs.YtdlobolnajcfnaaW.PrintWords Go.Proofs.YtdlobolnajcfnaaW.PrintLast Go.Proofs.YtdlobolnajcfnaaW.PrintMore
attribute [local go_sem] max2_int min2_int max_two min_two max_three min_three max_four min_four   -- for this text's walks alone
set_option linter.unusedVariables false
set_option linter.unusedSimpArgs false

/-! ### spec_AllComplete: function 21 -/
mutual
def spec_AllComplete.l0 : Nat → List (List Int) → Int → Int → List (List Int) → Option ((List (List Int)))
 | 0, _, _, _, _ => none
 | k + 1, x3, x4, x485000, x485001 => if 0 ≤ x485000 then (if x4 < (shl .i64 1 x485000) then (spec_AllComplete.l1 k x3 x4 (([] : List Int)) 0 x485000 x485001) else (some x3)) else (none)
def spec_AllComplete.l1 : Nat → List (List Int) → Int → List Int → Int → Int → List (List Int) → Option ((List (List Int)))
 | 0, _, _, _, _, _, _ => none
 | k + 1, x3, x4, x5, x6, x485000, x485001 => if x6 < x485000 then (if 0 ≤ x6 then (if (Go.bits .and .i64 (shr .i64 x4 x6) 1) = 1 then ((some (([x6] : List Int) : List Int)).bind fun y492 => (if x5.length + y492.length < 17592186044416 then (spec_AllComplete.l1 k x3 x4 (x5 ++ y492) (wrap64 (x6 + 1)) x485000 x485001) else (none))) else (spec_AllComplete.l1 k x3 x4 x5 (wrap64 (x6 + 1)) x485000 x485001)) else (none)) else ((spec_IsComplete.f k x485000 x485001 x5).bind fun t498 => (if t498 = true then (spec_AllComplete.l2 k x3 x4 x5 (x3.length : Int) x485000 x485001) else (spec_AllComplete.l0 k x3 (wrap64 (x4 + 1)) x485000 x485001)))
def spec_AllComplete.l2 : Nat → List (List Int) → Int → List Int → Int → Int → List (List Int) → Option ((List (List Int)))
 | 0, _, _, _, _, _, _ => none
 | k + 1, x3, x4, x5, x7, x485000, x485001 => if x7 > 0 then (if 0 ≤ (wrap64 (x7 - 1)) then (if (wrap64 (x7 - 1)) < (x3.length : Int) then ((spec_l7Before.f k x5 (rd_L2 x3 (wrap64 (x7 - 1)))).bind fun t500 => (if t500 = true then (spec_AllComplete.l2 k x3 x4 x5 (wrap64 (x7 - 1)) x485000 x485001) else ((some (([] : List (List Int)) : List (List Int))).bind fun y501 => (if 0 ≤ x7 then (if x7 ≤ (x3.length : Int) then ((some (x3.take (x7 : Int).toNat : List (List Int))).bind fun y504 => (if y501.length + y504.length < 5864062014805 then ((some (y501 ++ y504 : List (List Int))).bind fun y509 => ((some (([x5] : List (List Int)) : List (List Int))).bind fun y512 => (if y509.length + y512.length < 5864062014805 then ((some (y509 ++ y512 : List (List Int))).bind fun y515 => ((some (x3.drop (x7 : Int).toNat : List (List Int))).bind fun y518 => (if y515.length + y518.length < 5864062014805 then (spec_AllComplete.l0 k (y515 ++ y518) (wrap64 (x4 + 1)) x485000 x485001) else (none)))) else (none)))) else (none))) else (none)) else (none))))) else (none)) else (none)) else ((some (([] : List (List Int)) : List (List Int))).bind fun y526 => (if 0 ≤ x7 then (if x7 ≤ (x3.length : Int) then ((some (x3.take (x7 : Int).toNat : List (List Int))).bind fun y529 => (if y526.length + y529.length < 5864062014805 then ((some (y526 ++ y529 : List (List Int))).bind fun y534 => ((some (([x5] : List (List Int)) : List (List Int))).bind fun y537 => (if y534.length + y537.length < 5864062014805 then ((some (y534 ++ y537 : List (List Int))).bind fun y540 => ((some (x3.drop (x7 : Int).toNat : List (List Int))).bind fun y543 => (if y540.length + y543.length < 5864062014805 then (spec_AllComplete.l0 k (y540 ++ y543) (wrap64 (x4 + 1)) x485000 x485001) else (none)))) else (none)))) else (none))) else (none)) else (none)))
end
def spec_AllComplete.f (k : Nat) (a0_0 : Int) (l0_1 : List (List Int)) : Option ((List (List Int))) := (some (([] : List (List Int)) : List (List Int))).bind fun y485 => ((spec_IsGraph.f k a0_0 l0_1).bind fun t488 => (if t488 = true then (spec_AllComplete.l0 k y485 0 a0_0 l0_1) else (some y485)))
theorem spec_AllComplete.mono_l : ∀ k, (∀ y0 y1 y2 y3, LeO (spec_AllComplete.l0 k y0 y1 y2 y3) (spec_AllComplete.l0 (k + 1) y0 y1 y2 y3)) ∧ (∀ y0 y1 y2 y3 y4 y5, LeO (spec_AllComplete.l1 k y0 y1 y2 y3 y4 y5) (spec_AllComplete.l1 (k + 1) y0 y1 y2 y3 y4 y5)) ∧ (∀ y0 y1 y2 y3 y4 y5, LeO (spec_AllComplete.l2 k y0 y1 y2 y3 y4 y5) (spec_AllComplete.l2 (k + 1) y0 y1 y2 y3 y4 y5))
 | 0 => ⟨fun _ _ _ _ r h => by simp [spec_AllComplete.l0] at h, fun _ _ _ _ _ _ r h => by simp [spec_AllComplete.l1] at h, fun _ _ _ _ _ _ r h => by simp [spec_AllComplete.l2] at h⟩
 | k + 1 => by
  obtain ⟨ih0, ih1, ih2⟩ := spec_AllComplete.mono_l k
  refine ⟨?_, ?_, ?_⟩
  ·intro y0 y1 y2 y3
   unfold spec_AllComplete.l0
   repeat' with_reducible first | apply ih0 | apply ih1 | apply ih2 | apply spec_IsComplete.mono | apply spec_IsGraph.mono | apply spec_l7Before.mono | apply Zy | apply Zg | refine Zl ?_ ?_ | refine Zh ?_ (fun _ => ?_)
  ·intro y0 y1 y2 y3 y4 y5
   unfold spec_AllComplete.l1
   repeat' with_reducible first | apply ih0 | apply ih1 | apply ih2 | apply spec_IsComplete.mono | apply spec_IsGraph.mono | apply spec_l7Before.mono | apply Zy | apply Zg | refine Zl ?_ ?_ | refine Zh ?_ (fun _ => ?_)
  ·intro y0 y1 y2 y3 y4 y5
   unfold spec_AllComplete.l2
   repeat' with_reducible first | apply ih0 | apply ih1 | apply ih2 | apply spec_IsComplete.mono | apply spec_IsGraph.mono | apply spec_l7Before.mono | apply Zy | apply Zg | refine Zl ?_ ?_ | refine Zh ?_ (fun _ => ?_)
theorem spec_AllComplete.mono : ∀ a0 a1 k, LeO (spec_AllComplete.f k a0 a1) (spec_AllComplete.f (k + 1) a0 a1) := by
 intro a0 a1 k
 obtain ⟨ih0, ih1, ih2⟩ := spec_AllComplete.mono_l k
 unfold spec_AllComplete.f
 repeat' with_reducible first | apply ih0 | apply ih1 | apply ih2 | apply spec_IsComplete.mono | apply spec_IsGraph.mono | apply spec_l7Before.mono | apply Zy | apply Zg | refine Zl ?_ ?_ | refine Zh ?_ (fun _ => ?_)
def spec_AllComplete.T17 : Bool × List (List Nat × List Nat) := (true, [([], []), ([], []), ([], []), ([1, 2], [1, 2]), ([0, 3], [0, 3]), ([], []), ([5], [5]), ([4, 6, 4], [4, 6]), ([], []), ([], []), ([8, 9], [8, 9]), ([7, 10, 7], [7, 10]), ([11, 11, 0, 1, 2, 3, 4, 5, 6, 7, 8, 9, 10, 11], [1, 8, 11])])
def spec_AllComplete.B17 : List Nat := [0, 0, 0, 6, 15, 0, 32, 127, 0, 0, 768, 2047, 4095]
theorem spec_AllComplete.tab17 : rtab .any (opsOf Try.f21 17) = spec_AllComplete.T17 := by kernel_rfl
theorem spec_AllComplete.bits17 : waitsOk spec_AllComplete.T17.2 spec_AllComplete.B17 = true := by kernel_rfl
set_option maxHeartbeats 8000000 in
set_option maxRecDepth 100000 in
theorem spec_AllComplete.calls (k : Nat) (a0_0 : Int) (A0_1 : Option Addr) (c0_1 : Nat) (l0_1 : List (List Int)) (r : List (List Int)) (w : World) (hr0_1 : Kd.C (Kd.slice 3 (Kd.int .i64)) w A0_1 l0_1.length l0_1) (hc0_1 : l0_1.length ≤ c0_1) (h : spec_AllComplete.f k a0_0 l0_1 = some r) :
  Calls Try.prog 21 #[.agg #[.int .i64 a0_0, .slice A0_1 l0_1.length c0_1]] w fun e w' => ∃ v0_ : Value, e = .returned (v0_) ∧ Kd.N (Kd.slice 3 (Kd.int .i64)) 31 w' w.heap.size (fun k_ => (w.heap.size ≤ k_)) v0_ r ∧ Below w.heap.size w w' := by
 have hu27 := Try.underlying27
 have HR0_1 := Aside0.mk hr0_1
 have HC0_1 := Aside0.mk hc0_1
 clear hr0_1 hc0_1
 have HB := Aside0.mk (Below.refl w.heap.size w)
 have H := h
 unfold spec_AllComplete.f at H
 clear h
 obtain ⟨y485, hy485⟩ : ∃ y_ : List (List Int), y_ = (([] : List (List Int))) := ⟨_, rfl⟩
 replace H : ((spec_IsGraph.f k a0_0 l0_1).bind fun t488 => (if t488 = true then (spec_AllComplete.l0 k y485 0 a0_0 l0_1) else (some y485))) = some r := hy_ hy485 H
 have Ny485 := Aside0.mk hy485
 clear hy485
 obtain ⟨t488, A2, H⟩ := bd_ H
 try dsimp only at H
 by_cases c3 : t488 = true
 rotate_left
 ·replace c3 := Bool.eq_false_iff.mpr c3
  subst c3
  rw [if_neg (show ¬ (false = true) by decide)] at H
  try dsimp only at H
  obtain rfl := Option.some.inj H
  go_enter Try.func21, Try.ntmps21
  go_wp2_with (first | ((with_reducible refine Zz (N := 1) rfl ?_); refine ZI ?hg (N := 1) ?hd (cs := #[.int .i64 a0_0, .slice A0_1 l0_1.length c0_1]) (t := 27) ?hr ?_; (case hd => rfl); (case hg => rfl); (case hr => first | (go_simp; done) | (go_simp; rfl)); intro gb484 hg w80 hbox hb; have BK484 := Aside0.mk (hbox); have GW484 := Aside0.mk ((hz_ hg : w.heap.size ≤ gb484)); have GE484 := Aside0.mk ((hz_ hg : w.heap.size ≤ gb484)); replace HB := Aside0.mk (Zc hB_ hb); clear hb hbox hg) | ((with_reducible refine Zz (N := 8) rfl ?_); refine Kd.N_lit (Kd.slice 3 (Kd.int .i64)) _ 31 ?hg (N' := 8) ?hd (xs := ([] : List (List Int))) (inner := []) (ok := (fun k_ => (w.heap.size ≤ k_) ∧ k_ ≠ gb484)) (okp := (fun k_ => (w.heap.size ≤ k_) ∧ k_ ≠ gb484)) ?hr ?hp (fun _ hk => hk) ((show ∀ k_, w80.heap.size ≤ k_ → (fun k_ => (w.heap.size ≤ k_) ∧ k_ ≠ gb484) k_ from fun k_ hk => ⟨(Nat.le_trans (Ze hB_) hk), Kd.freshB (bq_ BK484.out) k_ hk⟩) _ (Nat.le_refl _)) (Below.refl _ _) (Nat.le_refl _) (by simp) ?_; (case hd => rfl); (case hg => rfl); (case hr => first | (go_simp; done) | (go_simp; rfl)); (case hp => exact (Reps.none _ _)); intro v486 w81 ho82 hb hg_ hnew_; clear hg_ hnew_; (first | rw [← Ny485.out] at ho82 | (simp only [Int.reduceToNat] at ho82; rw [← Ny485.out] at ho82)); have HO487 := Aside0.mk (Kd.N_lower ho82 (Ze hB_)); replace BK484 := Aside0.mk (Zd (bq_ BK484.out) hb); replace HB := Aside0.mk (Zc hB_ hb); clear hb ho82; obtain ⟨hcz83_0, hcz83_1, hfz83_0, hfz83_1⟩ := c2_ BK484.out) | ((with_reducible refine Zf (f := 57) rfl ?_); refine ZC (some 10) rfl rfl Try.func57 (by kernel_rfl) rfl #[.agg #[.int .i64 a0_0, .slice A0_1 l0_1.length c0_1]] rfl ar_ ?_; (with_reducible refine (spec_IsGraph.calls k a0_0 _ _ l0_1 false _ ?side1 ?side2 A2.out).mono ?_); (case side1 => exact cb_ HR0_1.out); (case side2 => exact HC0_1.out); rintro e w84 ⟨rfl, hb⟩; refine ⟨_, rfl, ?_⟩; replace HO487 := Aside0.mk (ZH (rN_ HO487.out) hb); replace BK484 := Aside0.mk (Zd (bq_ BK484.out) hb); replace HB := Aside0.mk (Zc hB_ hb); (try clear hb); (try clear hk)))
  go_ret
  exact ⟨_, er_, by (with_reducible repeat (first | apply ZG | apply ZF | apply Zv)); exact ZB HO487.out (fun _ hk => hk.1), hB_⟩
 subst c3
 rw [if_pos rfl] at H
 try dsimp only at H
 have H' := Aside0.mk H
 clear H
 go_enter Try.func21, Try.ntmps21
 go_wp2_with (first | ((with_reducible refine Zz (N := 1) rfl ?_); refine ZI ?hg (N := 1) ?hd (cs := #[.int .i64 a0_0, .slice A0_1 l0_1.length c0_1]) (t := 27) ?hr ?_; (case hd => rfl); (case hg => rfl); (case hr => first | (go_simp; done) | (go_simp; rfl)); intro gb484 hg w4 hbox hb; have BK484 := Aside0.mk (hbox); have GW484 := Aside0.mk ((hz_ hg : w.heap.size ≤ gb484)); have GE484 := Aside0.mk ((hz_ hg : w.heap.size ≤ gb484)); replace HB := Aside0.mk (Zc hB_ hb); clear hb hbox hg) | ((with_reducible refine Zz (N := 8) rfl ?_); refine Kd.N_lit (Kd.slice 3 (Kd.int .i64)) _ 31 ?hg (N' := 8) ?hd (xs := ([] : List (List Int))) (inner := []) (ok := (fun k_ => (w.heap.size ≤ k_) ∧ k_ ≠ gb484)) (okp := (fun k_ => (w.heap.size ≤ k_) ∧ k_ ≠ gb484)) ?hr ?hp (fun _ hk => hk) ((show ∀ k_, w4.heap.size ≤ k_ → (fun k_ => (w.heap.size ≤ k_) ∧ k_ ≠ gb484) k_ from fun k_ hk => ⟨(Nat.le_trans (Ze hB_) hk), Kd.freshB (bq_ BK484.out) k_ hk⟩) _ (Nat.le_refl _)) (Below.refl _ _) (Nat.le_refl _) (by simp) ?_; (case hd => rfl); (case hg => rfl); (case hr => first | (go_simp; done) | (go_simp; rfl)); (case hp => exact (Reps.none _ _)); intro v486 w5 ho6 hb hg_ hnew_; clear hg_ hnew_; (first | rw [← Ny485.out] at ho6 | (simp only [Int.reduceToNat] at ho6; rw [← Ny485.out] at ho6)); have HO487 := Aside0.mk (Kd.N_lower ho6 (Ze hB_)); replace BK484 := Aside0.mk (Zd (bq_ BK484.out) hb); replace HB := Aside0.mk (Zc hB_ hb); clear hb ho6; obtain ⟨hcz7_0, hcz7_1, hfz7_0, hfz7_1⟩ := c2_ BK484.out) | ((with_reducible refine Zf (f := 57) rfl ?_); refine ZC (some 10) rfl rfl Try.func57 (by kernel_rfl) rfl #[.agg #[.int .i64 a0_0, .slice A0_1 l0_1.length c0_1]] rfl ar_ ?_; (with_reducible refine (spec_IsGraph.calls k a0_0 _ _ l0_1 true _ ?side1 ?side2 A2.out).mono ?_); (case side1 => exact cb_ HR0_1.out); (case side2 => exact HC0_1.out); rintro e w8 ⟨rfl, hb⟩; refine ⟨_, rfl, ?_⟩; replace HO487 := Aside0.mk (ZH (rN_ HO487.out) hb); replace BK484 := Aside0.mk (Zd (bq_ BK484.out) hb); replace HB := Aside0.mk (Zc hB_ hb); (try clear hb); (try clear hk)))
 go_loopg [3, 4] k (fun kq v3 v4 w' => ∃ (x3_1 : List (List Int)) (x4_1 : Int), v4 = .int .i64 x4_1 ∧ Aside0 (spec_AllComplete.l0 kq x3_1 x4_1 a0_0 l0_1 = some r) ∧ Aside0 (kq ≤ k) ∧ Aside0 (Kd.N (Kd.slice 3 (Kd.int .i64)) 31 w' w.heap.size (fun k_ => (w.heap.size ≤ k_) ∧ k_ ≠ gb484) v3 x3_1) ∧ Aside0 (w'.heap[gb484]? = some (.cells #[.int .i64 a0_0, (.slice A0_1 l0_1.length c0_1)] 27 (0, 0))) ∧ Aside0 (Below w.heap.size w w'))
 case atStart => exact ⟨(y485), (0), sm_, H', ⟨Nat.le_refl _⟩, ⟨rN_ HO487.out⟩, ⟨bk_ BK484.out⟩, ⟨hB_⟩⟩
 case round =>
  clear H'
  try clear c2
  try clear p2
  try clear c3
  try clear c5
  try clear hcz7_0
  try clear hcz7_1
  try clear hfz7_0
  try clear hfz7_1
  obtain ⟨x3_1, x4_1, rfl, HA, HK1, HO_3, BK484, HB⟩ := hrel
  cases gk with
  | zero => exact absurd HA.out (by simp [spec_AllComplete.l0])
  | succ k1 =>
   have H := HA.out
   clear HA
   simp only [spec_AllComplete.l0] at H
   by_cases c9 : 0 ≤ a0_0
   rotate_left
   ·rw [if_neg c9] at H
    exact absurd H (by simp)
   rw [if_pos c9] at H
   have c9b0 := eq_true c9
   have c9b1 : decide (0 ≤ a0_0) = true := decide_eq_true c9
   clear c9
   obtain ⟨ji10, hji10⟩ : ∃ j_ : Int, (shl .i64 1 a0_0) = j_ := ⟨_, rfl⟩
   replace H : (if x4_1 < (ji10) then (spec_AllComplete.l1 k1 x3_1 x4_1 (([] : List Int)) 0 a0_0 l0_1) else (some x3_1)) = some r := by first | (rw [hji10] at H; exact H) | (simp only [hji10] at H ⊢; exact H)
   have hji10_ : (IntKind.i64.wrap (1 * 2 ^ min a0_0.toNat 64)) = ji10 := hji10
   have hji10z : a0_0 ≤ 64 → (IntKind.i64.wrap (1 * 2 ^ a0_0.toNat)) = ji10 := shl_small hji10
   have hji10u : (IntKind.i64.wrap (2 ^ min a0_0.toNat 64)) = ji10 := by have h_ := hji10_; rw [Int.one_mul] at h_; exact h_
   have hji10v : a0_0 ≤ 64 → (IntKind.i64.wrap (2 ^ a0_0.toNat)) = ji10 := fun hle_ => by have h_ := hji10z hle_; rw [Int.one_mul] at h_; exact h_
   have hji10y : (wrap64 (1 * 2 ^ min a0_0.toNat 64)) = ji10 := (i64_w _).symm.trans hji10_
   have hji10x : a0_0 ≤ 64 → (wrap64 (1 * 2 ^ a0_0.toNat)) = ji10 := fun h_ => (i64_w _).symm.trans (hji10z h_)
   by_cases c11 : x4_1 < (ji10)
   rotate_left
   ·rw [if_neg c11] at H
    have c11b0 : decide (x4_1 < (ji10)) = false := decide_eq_false c11
    clear c11
    obtain rfl := Option.some.inj H
    obtain ⟨hcz79_0, hcz79_1, hfz79_0, hfz79_1⟩ := c2_ BK484.out
    go_wp2
    go_ret
    exact ⟨_, by first | rfl | (simp [errW_none, errW_some] <;> rfl) | (simp only [← hji10]; first | rfl | (simp [errW_none, errW_some] <;> rfl)) | (simp [*, errW_none, errW_some] <;> rfl), by (with_reducible repeat (first | apply ZG | apply ZF | apply Zv)); exact ZB HO_3.out (fun _ hk => hk.1), hB_⟩
   rw [if_pos c11] at H
   have c11b0 : decide (x4_1 < (ji10)) = true := decide_eq_true c11
   clear c11
   obtain ⟨y489, hy489⟩ : ∃ y_ : List Int, y_ = (([] : List Int)) := ⟨_, rfl⟩
   replace H : (spec_AllComplete.l1 k1 x3_1 x4_1 y489 0 a0_0 l0_1) = some r := hy_ hy489 H
   have Ny489 := Aside0.mk hy489
   clear hy489
   have H' := Aside0.mk H
   clear H
   obtain ⟨hcz12_0, hcz12_1, hfz12_0, hfz12_1⟩ := c2_ BK484.out
   go_wp2_with (first | ((with_reducible refine Zz (N := 20) rfl ?_); refine Kd.R_lit (Kd.int .i64) _ 3 ?hg (N := 20) ?hd (xs := ([] : List Int)) (inner := []) (ok := fun _ => True) (okp := fun _ => True) ?hr ?hp (fun _ hk => hk) trivial (Below.refl _ _) (Nat.le_refl _) (by simp) ?_; (case hd => rfl); (case hg => rfl); (case hr => first | (go_simp; done) | (go_simp; rfl)); (case hp => exact (Reps.none _ _)); intro v490 w13 ho14 hb hg_ hnew_; clear hg_ hnew_; (first | rw [← Ny489.out] at ho14 | (simp only [Int.reduceToNat] at ho14; rw [← Ny489.out] at ho14)); replace HO_3 := Aside0.mk (Kd.N_elder' (rN_ HO_3.out) (Kd.R_base ho14) hb); have HO491 := Aside0.mk (Kd.R_lower (Kd.R_newM (M := fun k_ => (w.heap.size ≤ k_)) ho14 (Ze hB_) (fun k_ h_ => h_)) (Ze hB_)); replace BK484 := Aside0.mk (Zd (bq_ BK484.out) hb); replace HB := Aside0.mk (Zc hB_ hb); clear hb ho14))
   go_loopg [5, 6] k1 (fun kq v5 v6 w' => ∃ (x5_2 : List Int) (x6_2 : Int), v6 = .int .i64 x6_2 ∧ Aside0 (spec_AllComplete.l1 kq x3_1 x4_1 x5_2 x6_2 a0_0 l0_1 = some r) ∧ Aside0 (kq ≤ k1) ∧ Aside0 (Kd.N (Kd.slice 3 (Kd.int .i64)) 31 w' w.heap.size (fun k_ => (w.heap.size ≤ k_) ∧ some k_ ≠ (v5 : Value).ownBlock ∧ k_ ≠ gb484) u3 x3_1) ∧ Aside0 (Kd.R (Kd.int .i64) 3 w' w.heap.size (fun k_ => (w.heap.size ≤ k_)) v5 x5_2) ∧ Aside0 (w'.heap[gb484]? = some (.cells #[.int .i64 a0_0, (.slice A0_1 l0_1.length c0_1)] 27 (0, 0))) ∧ Aside0 (Below w.heap.size w w'))
   case atStart => exact ⟨(y489), (0), sm_, H', ⟨Nat.le_refl _⟩, ⟨by (with_reducible repeat (first | apply ZG | apply ZF | apply Zv)); exact ZB HO_3.out (fun _ hk => ⟨hk.1.1, ⟨hk.2, hk.1.2⟩⟩)⟩, ⟨by (with_reducible repeat (first | apply Kd.R_alloc | apply Kd.R_drewN | apply Kd.R_drew)); exact ZK HO491.out (fun _ hk => hk.1)⟩, ⟨bk_ BK484.out⟩, ⟨hB_⟩⟩
   case round =>
    clear H'
    try clear c1
    try clear c2
    try clear p2
    try clear c3
    try clear c5
    try clear p6
    try clear c9
    try clear c9b0
    try clear c9b1
    try clear c11
    try clear c11b0
    try clear hcz12_0
    try clear hcz12_1
    try clear hcz7_0
    try clear hcz7_1
    try clear hfz12_0
    try clear hfz12_1
    try clear hfz7_0
    try clear hfz7_1
    try clear p2
    obtain ⟨x5_2, x6_2, rfl, HA, HK2, HO_3, HO_5, BK484, HB⟩ := hrel
    cases gk with
    | zero => exact absurd HA.out (by simp [spec_AllComplete.l1])
    | succ k2 =>
     have H := HA.out
     clear HA
     simp only [spec_AllComplete.l1] at H
     by_cases c15 : x6_2 < a0_0
     ·rw [if_pos c15] at H
      have c15b0 : decide (x6_2 < a0_0) = true := decide_eq_true c15
      clear c15
      by_cases c16 : 0 ≤ x6_2
      rotate_left
      ·rw [if_neg c16] at H
       exact absurd H (by simp)
      rw [if_pos c16] at H
      have c16b0 := eq_true c16
      have c16b1 : decide (0 ≤ x6_2) = true := decide_eq_true c16
      clear c16
      obtain ⟨ji17, hji17⟩ : ∃ j_ : Int, (shr .i64 x4_1 x6_2) = j_ := ⟨_, rfl⟩
      replace H : (if (Go.bits .and .i64 (ji17) 1) = 1 then ((some (([x6_2] : List Int) : List Int)).bind fun y492 => (if x5_2.length + y492.length < 17592186044416 then (spec_AllComplete.l1 k2 x3_1 x4_1 (x5_2 ++ y492) (wrap64 (x6_2 + 1)) a0_0 l0_1) else (none))) else (spec_AllComplete.l1 k2 x3_1 x4_1 x5_2 (wrap64 (x6_2 + 1)) a0_0 l0_1)) = some r := by first | (rw [hji17] at H; exact H) | (simp only [hji17] at H ⊢; exact H)
      have hji17_ : (x4_1 / 2 ^ min x6_2.toNat 64) = ji17 := hji17
      have hji17z : x6_2 ≤ 64 → (x4_1 / 2 ^ x6_2.toNat) = ji17 := shr_small hji17
      by_cases c18 : (Go.bits .and .i64 (ji17) 1) = 1
      rotate_left
      ·rw [if_neg c18] at H
       have c18b0 : ((Go.bits .and .i64 (ji17) 1) == 1) = false := beq_eq_false_iff_ne.mpr c18
       have c18b1 : ((Go.bits .and .i64 (ji17) 1) != 1) = true := bne_iff_ne.mpr c18
       have H' := Aside0.mk H
       clear H
       obtain ⟨hcz25_0, hcz25_1, hfz25_0, hfz25_1⟩ := c2_ BK484.out
       go_wp2
       go_roundg k2
       case measure => have := HK1.out; have := HK2.out; omega
       case rel => exact ⟨(x5_2), (wrap64 (x6_2 + 1)), sm_, H', ⟨by have := HK1.out; have := HK2.out; omega⟩, ⟨rN_ HO_3.out⟩, ⟨rR_ HO_5.out⟩, ⟨bk_ BK484.out⟩, ⟨hB_⟩⟩
      rw [if_pos c18] at H
      have c18b0 : ((Go.bits .and .i64 (ji17) 1) == 1) = true := beq_iff_eq.mpr c18
      have c18b1 : ((Go.bits .and .i64 (ji17) 1) != 1) = false := bne_eq_false_iff_eq.mpr c18
      clear c18
      obtain ⟨y492, hy492⟩ : ∃ y_ : List Int, y_ = (([x6_2] : List Int)) := ⟨_, rfl⟩
      replace H : (if x5_2.length + y492.length < 17592186044416 then (spec_AllComplete.l1 k2 x3_1 x4_1 (x5_2 ++ y492) (wrap64 (x6_2 + 1)) a0_0 l0_1) else (none)) = some r := hy_ hy492 H
      have Ny492 := Aside0.mk hy492
      clear hy492
      by_cases c19 : x5_2.length + y492.length < 17592186044416
      rotate_left
      ·rw [if_neg c19] at H
       exact absurd H (by simp)
      rw [if_pos c19] at H
      have LMc19 := Aside0.mk c19
      clear c19
      obtain ⟨y495, hy495⟩ : ∃ y_ : List Int, y_ = (x5_2 ++ y492) := ⟨_, rfl⟩
      replace H : (spec_AllComplete.l1 k2 x3_1 x4_1 y495 (wrap64 (x6_2 + 1)) a0_0 l0_1) = some r := hy_ hy495 H
      have Ny495 := Aside0.mk hy495
      clear hy495
      have H' := Aside0.mk H
      clear H
      obtain ⟨hcz20_0, hcz20_1, hfz20_0, hfz20_1⟩ := c2_ BK484.out
      go_wp2_with (first | ((with_reducible refine Zz (N := 34) rfl ?_); refine Kd.R_lit (Kd.int .i64) _ 3 ?hg (N := 34) ?hd (xs := ([x6_2] : List Int)) (inner := [.int .i64 x6_2]) (ok := fun _ => True) (okp := fun _ => True) ?hr ?hp (fun _ hk => hk) trivial (Below.refl _ _) (Nat.le_refl _) (by simp) ?_; (case hd => rfl); (case hg => rfl); (case hr => first | (go_simp; done) | (go_simp; rfl)); (case hp => exact (Reps.one (show Kd.M (Kd.int .i64) _ _ _ x6_2 [.int .i64 x6_2] from rfl) (Reps.none _ _))); intro v493 w21 ho22 hb hg_ hnew_; clear hg_ hnew_; (first | rw [← Ny492.out] at ho22 | (simp only [Int.reduceToNat] at ho22; rw [← Ny492.out] at ho22)); replace HO_3 := Aside0.mk (Kd.N_elder' (rN_ HO_3.out) (Kd.R_base ho22) hb); have HO494 := Aside0.mk (Kd.R_lower (Kd.R_new' (Kd.R_newM (M := fun k_ => (w.heap.size ≤ k_)) ho22 (Ze hB_) (fun k_ h_ => h_)) (Kd.R_lt (rR_ HO_5.out))) (Ze hB_)); replace HO_5 := Aside0.mk (Kd.R_elder' (rR_ HO_5.out) (Kd.R_base ho22) hb); replace BK484 := Aside0.mk (Zd (bq_ BK484.out) hb); replace HB := Aside0.mk (Zc hB_ hb); clear hb ho22; obtain ⟨Ao24, co24, eo24⟩ := Kd.R_slice HO494.out; subst eo24) | ((with_reducible refine gate_builtin (b := .append) (xs := #[.tmp 32, .tmp 34]) rfl ?_); at_builtin; refine Kd.R_append_rows (Kd.int .i64) (w0 := w) w.heap.size rfl (.tmp 32) (.tmp 34) 31 3 (.int .i64 0) 8 rfl Try.underlying31 info3 rfl (by decide) (by omega) u5 x5_2 y492 _ _ _ (fun k_ => (w.heap.size ≤ k_) ∧ some k_ ≠ (.slice Ao24 y492.length co24 : Value).ownBlock) (fun _ => False) rfl rfl ?aO ?aR (fun _ _ h => h) (fun _ h => h.elim) ?aF ?aB ?aS ?aL ?_; (case aR => repeat (first | exact (ZE HO494.out).2.2 | (with_reducible refine Zt ?_ _) | (with_reducible refine Zp ?_ _) | (with_reducible refine Zu ?_))); (case aB => exact hB_); (case aF => exact (fun k_ hk => ⟨(Nat.le_trans (Ze hB_) hk), ZM (Kd.R_lt (rR_ HO494.out)) k_ hk⟩)); (case aO => exact (rR_ HO_5.out)); (case aS => exact (Ze hB_)); (case aL => have := LMc19.out; omega); intro v496 w23 ho hb hg hat; rw [← Ny495.out] at ho; have n0_ := Aside0.mk (Kd.N_afterv (ok := (fun k_ => (w.heap.size ≤ k_) ∧ some k_ ≠ (.slice Ao24 y492.length co24 : Value).ownBlock ∧ k_ ≠ gb484)) (by (with_reducible repeat (first | apply ZG | apply ZF | apply Zv)); exact ZB HO_3.out (fun _ hk => ⟨⟨hk.1.1, ⟨hk.2, hk.1.2.2⟩⟩, hk.1.2.1⟩)) hg hat); have n1_ := Aside0.mk (ZJ (bq_ BK484.out) hg (Kd.R_ne HO_5.out BK484.out (by decide))); have n2_ := Aside0.mk (Kd.R_after (ok := (fun k_ => (w.heap.size ≤ k_))) (by (with_reducible repeat (first | apply Kd.R_alloc | apply Kd.R_drewN | apply Kd.R_drew)); exact ZK HO494.out (fun _ hk => ⟨hk.1.1, hk.2⟩)) hg hat); have n3_ := Aside0.mk (hb); have n4_ := Aside0.mk (ho); clear HO_3; clear BK484; clear HO494; clear HB; clear HO_5; have HO_3 := n0_; have BK484 := n1_; have HO494 := n2_; have HB := n3_; have HO497 := n4_; clear n0_ n1_ n2_ n3_ n4_; clear ho hb hg hat))
      go_roundg k2
      case measure => have := HK1.out; have := HK2.out; omega
      case rel => exact ⟨(y495), (wrap64 (x6_2 + 1)), sm_, H', ⟨by have := HK1.out; have := HK2.out; omega⟩, ⟨by (with_reducible repeat (first | apply ZG | apply ZF | apply Zv)); exact ZB HO_3.out (fun _ hk => ⟨hk.1.1, ⟨hk.2, hk.1.2.2⟩⟩)⟩, ⟨by (with_reducible repeat (first | apply Kd.R_alloc | apply Kd.R_drewN | apply Kd.R_drew)); exact ZK HO497.out (fun _ hk => hk.1)⟩, ⟨bk_ BK484.out⟩, ⟨hB_⟩⟩
     rw [if_neg c15] at H
     have c15b0 : decide (x6_2 < a0_0) = false := decide_eq_false c15
     clear c15
     obtain ⟨t498, A26, H⟩ := bd_ H
     try dsimp only at H
     by_cases c27 : t498 = true
     rotate_left
     ·replace c27 := Bool.eq_false_iff.mpr c27
      subst c27
      rw [if_neg (show ¬ (false = true) by decide)] at H
      try dsimp only at H
      have H' := Aside0.mk H
      clear H
      obtain ⟨hcz76_0, hcz76_1, hfz76_0, hfz76_1⟩ := c2_ BK484.out
      obtain ⟨Ao77, co77, eo77⟩ := Kd.R_slice HO_5.out
      subst eo77
      go_wp2_with (first | ((with_reducible refine Zf (f := 68) rfl ?_); refine ZC (some 38) rfl rfl Try.func68 (by kernel_rfl) rfl #[.agg #[.int .i64 a0_0, .slice A0_1 l0_1.length c0_1], .slice Ao77 x5_2.length co77] rfl ar_ ?_; (with_reducible refine (spec_IsComplete.calls k2 a0_0 _ _ l0_1 _ _ x5_2 false _ ?side1 ?side2 ?side3 ?side4 A26.out).mono ?_); (case side1 => exact cb_ HR0_1.out); (case side2 => exact HC0_1.out); (case side3 => exact sA_ (ZE HO_5.out).2.2); (case side4 => exact (ZE HO_5.out).2.1); rintro e w78 ⟨rfl, hb⟩; refine ⟨_, rfl, ?_⟩; replace HO_3 := Aside0.mk (ZH (rN_ HO_3.out) hb); replace HO_5 := Aside0.mk (Kd.R_below (rR_ HO_5.out) hb); replace BK484 := Aside0.mk (Zd (bq_ BK484.out) hb); replace HB := Aside0.mk (Zc hB_ hb); (try clear hb)))
      go_roundg k2
      case measure => have := HK1.out; have := HK2.out; omega
      case rel => exact ⟨(x3_1), (wrap64 (x4_1 + 1)), sm_, H', ⟨by have := HK1.out; have := HK2.out; omega⟩, ⟨by (with_reducible repeat (first | apply ZG | apply ZF | apply Zv)); exact ZB HO_3.out (fun _ hk => ⟨hk.1, hk.2.2⟩)⟩, ⟨bk_ BK484.out⟩, ⟨hB_⟩⟩
     subst c27
     rw [if_pos rfl] at H
     try dsimp only at H
     have H' := Aside0.mk H
     clear H
     obtain ⟨hcz28_0, hcz28_1, hfz28_0, hfz28_1⟩ := c2_ BK484.out
     obtain ⟨Ao29, co29, eo29⟩ := Kd.R_slice HO_5.out
     subst eo29
     go_wp2_with (first | ((with_reducible refine Zf (f := 68) rfl ?_); refine ZC (some 38) rfl rfl Try.func68 (by kernel_rfl) rfl #[.agg #[.int .i64 a0_0, .slice A0_1 l0_1.length c0_1], .slice Ao29 x5_2.length co29] rfl ar_ ?_; (with_reducible refine (spec_IsComplete.calls k2 a0_0 _ _ l0_1 _ _ x5_2 true _ ?side1 ?side2 ?side3 ?side4 A26.out).mono ?_); (case side1 => exact cb_ HR0_1.out); (case side2 => exact HC0_1.out); (case side3 => exact sA_ (ZE HO_5.out).2.2); (case side4 => exact (ZE HO_5.out).2.1); rintro e w30 ⟨rfl, hb⟩; refine ⟨_, rfl, ?_⟩; replace HO_3 := Aside0.mk (ZH (rN_ HO_3.out) hb); replace HO_5 := Aside0.mk (Kd.R_below (rR_ HO_5.out) hb); replace BK484 := Aside0.mk (Zd (bq_ BK484.out) hb); replace HB := Aside0.mk (Zc hB_ hb); (try clear hb); obtain ⟨Ao31, co31, eo31⟩ := Kd.N_slice HO_3.out; subst eo31))
     go_loopg [7] k2 (fun kq v7 w' => ∃ (x7_3 : Int), v7 = .int .i64 x7_3 ∧ Aside0 (spec_AllComplete.l2 kq x3_1 x4_1 x5_2 x7_3 a0_0 l0_1 = some r) ∧ Aside0 (kq ≤ k2) ∧ Aside0 (Kd.N (Kd.slice 3 (Kd.int .i64)) 31 w' w.heap.size (fun k_ => (w.heap.size ≤ k_) ∧ some k_ ≠ ((.slice Ao29 x5_2.length co29) : Value).ownBlock ∧ k_ ≠ gb484) (.slice Ao31 x3_1.length co31) x3_1) ∧ Aside0 (Kd.R (Kd.int .i64) 3 w' w.heap.size (fun k_ => (w.heap.size ≤ k_)) (.slice Ao29 x5_2.length co29) x5_2) ∧ Aside0 (w'.heap[gb484]? = some (.cells #[.int .i64 a0_0, (.slice A0_1 l0_1.length c0_1)] 27 (0, 0))) ∧ Aside0 (Below w.heap.size w w'))
     case atStart => exact ⟨((x3_1.length : Int)), sm_, H', ⟨Nat.le_refl _⟩, ⟨rN_ HO_3.out⟩, ⟨rR_ HO_5.out⟩, ⟨bk_ BK484.out⟩, ⟨hB_⟩⟩
     case round =>
      clear H'
      try clear c1
      try clear c2
      try clear p2
      try clear c3
      try clear c5
      try clear c6
      try clear p6
      try clear c9
      try clear c9b0
      try clear c9b1
      try clear c11
      try clear c11b0
      try clear c15
      try clear c15b0
      try clear c16
      try clear c16b0
      try clear c16b1
      try clear c18
      try clear c18b0
      try clear c18b1
      try clear c19
      try clear c21
      try clear c27
      try clear hcz12_0
      try clear hcz12_1
      try clear hcz20_0
      try clear hcz20_1
      try clear hcz25_0
      try clear hcz25_1
      try clear hcz28_0
      try clear hcz28_1
      try clear hcz7_0
      try clear hcz7_1
      try clear hfz12_0
      try clear hfz12_1
      try clear hfz20_0
      try clear hfz20_1
      try clear hfz25_0
      try clear hfz25_1
      try clear hfz28_0
      try clear hfz28_1
      try clear hfz7_0
      try clear hfz7_1
      try clear p2
      try clear p6
      obtain ⟨x7_3, rfl, HA, HK3, HO_3, HO_5, BK484, HB⟩ := hrel
      cases gk with
      | zero => exact absurd HA.out (by simp [spec_AllComplete.l2])
      | succ k3 =>
       have H := HA.out
       clear HA
       simp only [spec_AllComplete.l2] at H
       by_cases c32 : x7_3 > 0
       rotate_left
       ·rw [if_neg c32] at H
        have c32b0 : decide (0 < x7_3) = false := decide_eq_false c32
        clear c32
        obtain ⟨y526, hy526⟩ : ∃ y_ : List (List Int), y_ = (([] : List (List Int))) := ⟨_, rfl⟩
        replace H : (if 0 ≤ x7_3 then (if x7_3 ≤ (x3_1.length : Int) then ((some (x3_1.take (x7_3 : Int).toNat : List (List Int))).bind fun y529 => (if y526.length + y529.length < 5864062014805 then ((some (y526 ++ y529 : List (List Int))).bind fun y534 => ((some (([x5_2] : List (List Int)) : List (List Int))).bind fun y537 => (if y534.length + y537.length < 5864062014805 then ((some (y534 ++ y537 : List (List Int))).bind fun y540 => ((some (x3_1.drop (x7_3 : Int).toNat : List (List Int))).bind fun y543 => (if y540.length + y543.length < 5864062014805 then (spec_AllComplete.l0 k3 (y540 ++ y543) (wrap64 (x4_1 + 1)) a0_0 l0_1) else (none)))) else (none)))) else (none))) else (none)) else (none)) = some r := hy_ hy526 H
        have Ny526 := Aside0.mk hy526
        clear hy526
        by_cases c57 : 0 ≤ x7_3
        rotate_left
        ·rw [if_neg c57] at H
         exact absurd H (by simp)
        rw [if_pos c57] at H
        have c57b0 := eq_true c57
        have c57b1 : decide (0 ≤ x7_3) = true := decide_eq_true c57
        clear c57
        by_cases c58 : x7_3 ≤ (x3_1.length : Int)
        rotate_left
        ·rw [if_neg c58] at H
         exact absurd H (by simp)
        rw [if_pos c58] at H
        have c58b0 := eq_true c58
        have c58b1 : decide (x7_3 ≤ (x3_1.length : Int)) = true := decide_eq_true c58
        clear c58
        obtain ⟨y529, hy529⟩ : ∃ y_ : List (List Int), y_ = (x3_1.take (x7_3 : Int).toNat) := ⟨_, rfl⟩
        replace H : (if y526.length + y529.length < 5864062014805 then ((some (y526 ++ y529 : List (List Int))).bind fun y534 => ((some (([x5_2] : List (List Int)) : List (List Int))).bind fun y537 => (if y534.length + y537.length < 5864062014805 then ((some (y534 ++ y537 : List (List Int))).bind fun y540 => ((some (x3_1.drop (x7_3 : Int).toNat : List (List Int))).bind fun y543 => (if y540.length + y543.length < 5864062014805 then (spec_AllComplete.l0 k3 (y540 ++ y543) (wrap64 (x4_1 + 1)) a0_0 l0_1) else (none)))) else (none)))) else (none)) = some r := hy_ hy529 H
        have Ny529 := Aside0.mk hy529
        clear hy529
        by_cases c59 : y526.length + y529.length < 5864062014805
        rotate_left
        ·rw [if_neg c59] at H
         exact absurd H (by simp)
        rw [if_pos c59] at H
        have LMc59 := Aside0.mk c59
        clear c59
        obtain ⟨y534, hy534⟩ : ∃ y_ : List (List Int), y_ = (y526 ++ y529) := ⟨_, rfl⟩
        replace H : ((some (([x5_2] : List (List Int)) : List (List Int))).bind fun y537 => (if y534.length + y537.length < 5864062014805 then ((some (y534 ++ y537 : List (List Int))).bind fun y540 => ((some (x3_1.drop (x7_3 : Int).toNat : List (List Int))).bind fun y543 => (if y540.length + y543.length < 5864062014805 then (spec_AllComplete.l0 k3 (y540 ++ y543) (wrap64 (x4_1 + 1)) a0_0 l0_1) else (none)))) else (none))) = some r := hy_ hy534 H
        have Ny534 := Aside0.mk hy534
        clear hy534
        obtain ⟨y537, hy537⟩ : ∃ y_ : List (List Int), y_ = (([x5_2] : List (List Int))) := ⟨_, rfl⟩
        replace H : (if y534.length + y537.length < 5864062014805 then ((some (y534 ++ y537 : List (List Int))).bind fun y540 => ((some (x3_1.drop (x7_3 : Int).toNat : List (List Int))).bind fun y543 => (if y540.length + y543.length < 5864062014805 then (spec_AllComplete.l0 k3 (y540 ++ y543) (wrap64 (x4_1 + 1)) a0_0 l0_1) else (none)))) else (none)) = some r := hy_ hy537 H
        have Ny537 := Aside0.mk hy537
        clear hy537
        by_cases c60 : y534.length + y537.length < 5864062014805
        rotate_left
        ·rw [if_neg c60] at H
         exact absurd H (by simp)
        rw [if_pos c60] at H
        have LMc60 := Aside0.mk c60
        clear c60
        obtain ⟨y540, hy540⟩ : ∃ y_ : List (List Int), y_ = (y534 ++ y537) := ⟨_, rfl⟩
        replace H : ((some (x3_1.drop (x7_3 : Int).toNat : List (List Int))).bind fun y543 => (if y540.length + y543.length < 5864062014805 then (spec_AllComplete.l0 k3 (y540 ++ y543) (wrap64 (x4_1 + 1)) a0_0 l0_1) else (none))) = some r := hy_ hy540 H
        have Ny540 := Aside0.mk hy540
        clear hy540
        have c61b0 := eq_true (of_decide_eq_true as_ : 0 ≤ x7_3)
        have c62b0 := eq_true (of_decide_eq_true as_ : x7_3 ≤ (x3_1.length : Int))
        obtain ⟨y543, hy543⟩ : ∃ y_ : List (List Int), y_ = (x3_1.drop (x7_3 : Int).toNat) := ⟨_, rfl⟩
        replace H : (if y540.length + y543.length < 5864062014805 then (spec_AllComplete.l0 k3 (y540 ++ y543) (wrap64 (x4_1 + 1)) a0_0 l0_1) else (none)) = some r := hy_ hy543 H
        have Ny543 := Aside0.mk hy543
        clear hy543
        by_cases c63 : y540.length + y543.length < 5864062014805
        rotate_left
        ·rw [if_neg c63] at H
         exact absurd H (by simp)
        rw [if_pos c63] at H
        have LMc63 := Aside0.mk c63
        clear c63
        obtain ⟨y548, hy548⟩ : ∃ y_ : List (List Int), y_ = (y540 ++ y543) := ⟨_, rfl⟩
        replace H : (spec_AllComplete.l0 k3 y548 (wrap64 (x4_1 + 1)) a0_0 l0_1) = some r := hy_ hy548 H
        have Ny548 := Aside0.mk hy548
        clear hy548
        have H' := Aside0.mk H
        clear H
        try go_wp2
        replace HO_3 := Aside0.mk (Zv HO_3.out)
        replace HO_5 := Aside0.mk (Kd.R_drew HO_5.out)
        replace BK484 := Aside0.mk (Zj BK484.out)
        replace HB := Aside0.mk (Zq HB.out)
        have q65 : (x7_3 : Int) ≤ ((x3_1.length : Int) : Int) := of_decide_eq_true as_
        obtain ⟨i065, hi065, _, hsz65, _⟩ := info_parts info31
        have hroom65 : x3_1.length ≤ co31 := (Zn HO_3.out).2.1
        have hC65 : Kd.F (Kd.slice 3 (Kd.int .i64)) _ _ Ao31 x3_1.length x3_1 := (Kd.V_at (base := w.heap.size) (Kd.N_V HO_3.out)).2.2
        have hcut65 := cut_to (P := Try.prog) 22 31 .i64 Try.underlying22 hi065 Ao31 x3_1.length co31 x7_3 (of_decide_eq_true as_) q65 hroom65
        have hr65 := Kd.F_take (m := (x7_3 : Int).toNat) hC65 (by omega)
        have hy65 : y529.length = (x7_3 : Int).toNat := (by first | (rw [Ny529.out, List.length_take]; omega) | (rw [Ny529.out, List.length_take, Ny548.out, List.length_set]; omega) | (rw [Ny529.out, List.length_take, Ny543.out, List.length_set]; omega) | (rw [Ny529.out, List.length_take, Ny540.out, List.length_set]; omega) | (rw [Ny529.out, List.length_take, Ny537.out, List.length_set]; omega) | (rw [Ny529.out, List.length_take, Ny534.out, List.length_set]; omega) | (rw [Ny529.out, List.length_take, Ny526.out, List.length_set]; omega) | (rw [Ny529.out, List.length_take, Ny523.out, List.length_set]; omega))
        rw [← Ny529.out] at hr65
        rw [← hy65] at hcut65
        have HO533 := Aside0.mk (show Kd.V (Kd.slice 3 (Kd.int .i64)) 31 _ w.heap.size _ (.slice Ao31 y529.length co31) y529 from Kd.V_mk (by omega) hr65)
        have HC533 := Aside0.mk (show y529.length ≤ co31 from by omega)
        clear hr65 hC65 hroom65 hi065 hsz65
        have KY65 := Aside0.mk hy65
        clear hy65
        replace q65 := eq_true q65
        have q66 : (x7_3 : Int) ≤ ((x3_1.length : Int) : Int) := of_decide_eq_true as_
        obtain ⟨i066, hi066, _, hsz66, _⟩ := info_parts info31
        have hroom66 : x3_1.length ≤ co31 := (Zn HO_3.out).2.1
        have hC66 : Kd.F (Kd.slice 3 (Kd.int .i64)) _ _ Ao31 x3_1.length x3_1 := (Kd.V_at (base := w.heap.size) (Kd.N_V HO_3.out)).2.2
        have q066 : (0 : Int) ≤ (x7_3 : Int) := of_decide_eq_true as_
        have hcut66 := cut_from (P := Try.prog) 22 31 .i64 Try.underlying22 hi066 1 hsz66 Ao31 x3_1.length co31 x7_3 q066 q66
        have hr66 := Kd.F_cut (m := (x7_3 : Int).toNat) (c := co31) hC66 (by omega) hroom66
        obtain ⟨A66, hA66⟩ : ∃ A1, A1 = (if co31 = (x7_3 : Int).toNat then Ao31 else (Ao31 : Option Addr).map (·.add ((x7_3 : Int).toNat * 1))) := ⟨_, rfl⟩
        obtain ⟨c66, hc66⟩ : ∃ c1, c1 = co31 - (x7_3 : Int).toNat := ⟨_, rfl⟩
        have hy66 : y543.length = x3_1.length - (x7_3 : Int).toNat := (by rw [Ny543.out, List.length_drop] <;> omega)
        rw [show (x3_1).drop (x7_3 : Int).toNat = y543 from Ny543.out.symm] at hr66
        replace hr66 : Kd.F (Kd.slice 3 (Kd.int .i64)) _ _ A66 y543.length y543 := (by rw [hA66]; exact hr66)
        rw [← hy66, ← hA66, ← hc66] at hcut66
        have HO547 := Aside0.mk (show Kd.V (Kd.slice 3 (Kd.int .i64)) 31 _ w.heap.size _ (.slice A66 y543.length c66) y543 from Kd.V_mk (by rw [hy66, hc66]; exact Nat.sub_le_sub_right hroom66 _) hr66)
        have HC547 := Aside0.mk (show y543.length ≤ c66 from by rw [hy66, hc66]; exact Nat.sub_le_sub_right hroom66 _)
        clear hr66 hC66 hroom66 hi066 hsz66 hc66
        have KY66 := Aside0.mk hy66
        have KA66 := Aside0.mk hA66
        clear hy66 hA66
        replace q66 := eq_true q66
        refine start_ (n := 13) (S := fun w' => True) (ds := []) (m_ 13 0) (by kernel_rfl) rfl rfl trivial (fun hHeld => ?_); refine with_tabW spec_AllComplete.tab17 spec_AllComplete.bits17 (fun HT_ HW_ => ?_)
        generalize wr.drew = w64 at HO_3 HO_5 BK484 HB HO533 HO547 hHeld ⊢
        refine pu_ 1 55 (m_ 13 2) ?_
        refine pu_ 2 56 (m_ 13 6) ?_
        refine pu_ 3 57 (m_ 13 14) ?_
        refine pu_ 5 59 (m_ 13 46) ?_
        refine pu_ 8 62 (m_ 13 302) ?_
        refine pu_ 9 63 (m_ 13 814) ?_
        refine pu_ 10 64 (m_ 13 1838) ?_
        refine join_ (σ := Value × Value × Value) 3 (m_ 13 1919) (fun s_ => [(54, s_.1), (58, s_.2.1), (60, s_.2.2)]) (fun s_ w' => (Kd.V (Kd.slice 3 (Kd.int .i64)) 31 w' w.heap.size (fun k_ => (w.heap.size ≤ k_) ∧ some k_ ≠ (s_.2.1 : Value).ownBlock ∧ some k_ ≠ (s_.2.2 : Value).ownBlock ∧ k_ ≠ gb484) (.slice Ao31 y529.length co31) y529) ∧ (Kd.N (Kd.slice 3 (Kd.int .i64)) 31 w' w.heap.size (fun k_ => (w.heap.size ≤ k_) ∧ some k_ ≠ (s_.2.2 : Value).ownBlock ∧ k_ ≠ gb484) s_.2.1 y534) ∧ (Kd.N (Kd.slice 3 (Kd.int .i64)) 31 w' w.heap.size (fun k_ => (w.heap.size ≤ k_) ∧ some k_ ≠ (s_.2.1 : Value).ownBlock ∧ some k_ ≠ (.slice Ao31 x3_1.length co31 : Value).ownBlock ∧ k_ ≠ gb484) s_.2.2 y537) ∧ (Kd.V (Kd.slice 3 (Kd.int .i64)) 31 w' w.heap.size (fun k_ => (w.heap.size ≤ k_) ∧ some k_ ≠ (s_.2.1 : Value).ownBlock ∧ some k_ ≠ (s_.2.2 : Value).ownBlock ∧ k_ ≠ gb484) (.slice A66 y543.length c66) y543) ∧ (Kd.N (Kd.slice 3 (Kd.int .i64)) 31 w' w.heap.size (fun k_ => (w.heap.size ≤ k_) ∧ some k_ ≠ (s_.2.1 : Value).ownBlock ∧ some k_ ≠ (s_.2.2 : Value).ownBlock ∧ k_ ≠ gb484) (.slice Ao31 x3_1.length co31) x3_1) ∧ (w'.heap[gb484]? = some (.cells #[.int .i64 a0_0, .slice A0_1 l0_1.length c0_1] 27 (0, 0))) ∧ (Below w.heap.size w w')) ?_ ?_
        rotate_left
        ·intro hCont
         refine two_ (i := 0) (j := 6) (Ni := some 54) (Nj := some 60) (m_ 13 1839) (m_ 13 1902) rfl rfl rfl rfl (two_of HT_.out (by kernel_rfl)) (by decide) (by decide) (fun K hK => ?_) (fun K hK => ?_)
         rotate_left
         ·skip
          refine Kd.N_lit_step (Kd.slice 3 (Kd.int .i64)) _ 31 ?hg (N' := 60) ?hd (xs := ([x5_2] : List (List Int))) (inner := [.slice Ao29 x5_2.length co29]) (ok := (fun k_ => (w.heap.size ≤ k_) ∧ some k_ ≠ (.slice Ao31 x3_1.length co31 : Value).ownBlock ∧ k_ ≠ gb484)) (okp := (fun k_ => (w.heap.size ≤ k_) ∧ some k_ ≠ (.slice Ao31 x3_1.length co31 : Value).ownBlock ∧ k_ ≠ gb484)) ?hr ?hp (fun _ hk => hk) ((show ∀ k_, w64.heap.size ≤ k_ → (fun k_ => (w.heap.size ≤ k_) ∧ some k_ ≠ (.slice Ao31 x3_1.length co31 : Value).ownBlock ∧ k_ ≠ gb484) k_ from fun k_ hk => ⟨(Nat.le_trans (Ze hB_) hk), ZM (Kd.N_lt (rN_ HO_3.out)) k_ hk, Kd.freshB (bq_ BK484.out) k_ hk⟩) _ (Nat.le_refl _)) (Below.refl _ _) (Nat.le_refl _) (by simp) ?_; (case hd => rfl); (case hg => rfl); (case hr => first | (go_simp; done) | (go_simp; rfl)); (case hp => exact (Reps.one (show Kd.FK (Kd.slice 3 (Kd.int .i64)) _ _ x5_2 [.slice Ao29 x5_2.length co29] from (Kd.FK_slice_mk (ZE (ZK (ok' := (fun k_ => (w.heap.size ≤ k_) ∧ some k_ ≠ (.slice Ao31 x3_1.length co31 : Value).ownBlock ∧ k_ ≠ gb484)) (Kd.R_types (ZN (HO_5.out) (Kd.N_typed HO_3.out) (by decide)) BK484.out (by decide)) (fun k_ hk => ⟨hk.1.1, ⟨hk.1.2, hk.2⟩⟩))).2.1 (Kd.R_F (ZK (ok' := (fun k_ => (w.heap.size ≤ k_) ∧ some k_ ≠ (.slice Ao31 x3_1.length co31 : Value).ownBlock ∧ k_ ≠ gb484)) (Kd.R_types (ZN (HO_5.out) (Kd.N_typed HO_3.out) (by decide)) BK484.out (by decide)) (fun k_ hk => ⟨hk.1.1, ⟨hk.1.2, hk.2⟩⟩))))) (Reps.none _ _)))
          intro v538 w67 ho68 hb hg_ hnew_
          clear hg_ hnew_
          (first | rw [← Ny537.out] at ho68 | (simp only [Int.reduceToNat] at ho68; rw [← Ny537.out] at ho68))
          have n0_ := Aside0.mk (Kd.N_elder' (rN_ HO_3.out) (Kd.N_base ho68) hb)
          have n1_ := Aside0.mk (Kd.V_elder' (rV_ HO533.out) (Kd.N_base ho68) hb)
          have n2_ := Aside0.mk (Kd.V_elder' (rV_ HO547.out) (Kd.N_base ho68) hb)
          have n3_ := Aside0.mk (Kd.N_lower ho68 (Ze hB_))
          have n4_ := Aside0.mk (Zd (bq_ BK484.out) hb)
          have n5_ := Aside0.mk (Zc hB_ hb)
          clear HO_3
          clear HO533
          clear HO547
          clear BK484
          clear HB
          clear HO_5
          have HO_3 := n0_
          have HO533 := n1_
          have HO547 := n2_
          have HO539 := n3_
          have BK484 := n4_
          have HB := n5_
          clear n0_ n1_ n2_ n3_ n4_ n5_
          clear hb ho68
          refine hK.out _ _ trivial (fun hHeld => ?_)
          clear hK K
          refine no_ 60 ?_
          refine on_ 0 54 (m_ 13 1903) (fun K hK => ?_)
          refine Kd.N_lit_step (Kd.slice 3 (Kd.int .i64)) _ 31 ?hg (N' := 54) ?hd (xs := ([] : List (List Int))) (inner := []) (ok := (fun k_ => (w.heap.size ≤ k_) ∧ some k_ ≠ (.slice Ao31 x3_1.length co31 : Value).ownBlock ∧ some k_ ≠ (v538 : Value).ownBlock ∧ k_ ≠ gb484)) (okp := (fun k_ => (w.heap.size ≤ k_) ∧ some k_ ≠ (.slice Ao31 x3_1.length co31 : Value).ownBlock ∧ some k_ ≠ (v538 : Value).ownBlock ∧ k_ ≠ gb484)) ?hr ?hp (fun _ hk => hk) ((show ∀ k_, w67.heap.size ≤ k_ → (fun k_ => (w.heap.size ≤ k_) ∧ some k_ ≠ (.slice Ao31 x3_1.length co31 : Value).ownBlock ∧ some k_ ≠ (v538 : Value).ownBlock ∧ k_ ≠ gb484) k_ from fun k_ hk => ⟨(Nat.le_trans (Ze hB_) hk), ZM (Kd.N_lt (rN_ HO_3.out)) k_ hk, ZM (Kd.N_lt (rN_ HO539.out)) k_ hk, Kd.freshB (bq_ BK484.out) k_ hk⟩) _ (Nat.le_refl _)) (Below.refl _ _) (Nat.le_refl _) (by simp) ?_; (case hd => rfl); (case hg => rfl); (case hr => first | (go_simp; done) | (go_simp; rfl)); (case hp => exact (Reps.none _ _))
          intro v527 w69 ho70 hb hg_ hnew_
          clear hg_ hnew_
          (first | rw [← Ny526.out] at ho70 | (simp only [Int.reduceToNat] at ho70; rw [← Ny526.out] at ho70))
          replace HO_3 := Aside0.mk (Kd.N_elder' (rN_ HO_3.out) (Kd.N_base ho70) hb)
          replace HO533 := Aside0.mk (Kd.V_elder' (rV_ HO533.out) (Kd.N_base ho70) hb)
          replace HO547 := Aside0.mk (Kd.V_elder' (rV_ HO547.out) (Kd.N_base ho70) hb)
          replace HO539 := Aside0.mk (Kd.N_elder' (rN_ HO539.out) (Kd.N_base ho70) hb)
          have HO528 := Aside0.mk (Kd.N_lower ho70 (Ze hB_))
          replace BK484 := Aside0.mk (Zd (bq_ BK484.out) hb)
          replace HB := Aside0.mk (Zc hB_ hb)
          clear hb ho70
          refine hK.out _ _ trivial (fun hHeld => ?_)
          clear hK K
          refine no_ 54 ?_
          refine on_ 4 58 (m_ 13 1919) (fun K hK => ?_)
          refine Kd.N_append_rows_step (Kd.slice 3 (Kd.int .i64)) (w0 := w) w.heap.size (by rfl) (.tmp 54) (.tmp 57) 22 31 (.slice none 0 0) 24 rfl Try.underlying22 info31 rfl (by decide) (by omega) v527 y526 y529 _ _ _ (fun k_ => (w.heap.size ≤ k_) ∧ some k_ ≠ (v538 : Value).ownBlock ∧ k_ ≠ gb484) (fun k_ => ((fun k_ => (w.heap.size ≤ k_) ∧ some k_ ≠ (v538 : Value).ownBlock ∧ k_ ≠ gb484)) k_ ∧ some k_ ≠ (v527 : Value).ownBlock) rfl rfl ?aO ?aR (fun _ hk => hk) ?aF ?aB ?aS ?aL ?_
          (case aR => exact (by skip; exact Kd.V_F (ZR (ok' := (fun k_ => ((fun k_ => (w.heap.size ≤ k_) ∧ some k_ ≠ (v538 : Value).ownBlock ∧ k_ ≠ gb484)) k_ ∧ some k_ ≠ (v527 : Value).ownBlock)) (HO533.out) (fun k_ hk => ⟨⟨hk.1.1.1, ⟨hk.1.2, hk.1.1.2.2⟩⟩, hk.2⟩))))
          (case aB => exact hB_)
          (case aF => exact (fun k_ hk => ⟨(Nat.le_trans (Ze hB_) hk), ZM (Kd.N_lt (rN_ HO539.out)) k_ hk, Kd.freshB (bq_ BK484.out) k_ hk⟩))
          (case aO => exact (by (with_reducible repeat (first | apply ZG | apply ZF | apply Zv)); exact ZB HO528.out (fun _ hk => ⟨hk.1, ⟨hk.2.2.1, hk.2.2.2⟩⟩)))
          (case aS => exact (Ze hB_))
          (case aL => have := LMc59.out; omega)
          intro v535 w71 ho hb hg hat
          rw [← Ny534.out] at ho
          have n0_ := Aside0.mk (Kd.N_afterv (ok := (fun k_ => (w.heap.size ≤ k_) ∧ some k_ ≠ (v538 : Value).ownBlock ∧ k_ ≠ gb484)) (by (with_reducible repeat (first | apply ZG | apply ZF | apply Zv)); exact ZB HO_3.out (fun _ hk => ⟨⟨hk.1.1.1, ⟨hk.1.2, hk.1.1.2.2⟩⟩, hk.2⟩)) hg hat)
          have n1_ := Aside0.mk (ZJ (bq_ BK484.out) hg (Kd.N_ne HO528.out BK484.out (by decide)))
          have n2_ := Aside0.mk (Kd.V_afterv (ok := (fun k_ => (w.heap.size ≤ k_) ∧ some k_ ≠ (v538 : Value).ownBlock ∧ k_ ≠ gb484)) (by (with_reducible repeat (first | apply ZQ | apply ZO | apply ZS)); exact ZR HO533.out (fun _ hk => ⟨⟨hk.1.1.1, ⟨hk.1.2, hk.1.1.2.2⟩⟩, hk.2⟩)) hg hat)
          have n3_ := Aside0.mk (Kd.V_afterv (ok := (fun k_ => (w.heap.size ≤ k_) ∧ some k_ ≠ (v538 : Value).ownBlock ∧ k_ ≠ gb484)) (by (with_reducible repeat (first | apply ZQ | apply ZO | apply ZS)); exact ZR HO547.out (fun _ hk => ⟨⟨hk.1.1.1, ⟨hk.1.2, hk.1.1.2.2⟩⟩, hk.2⟩)) hg hat)
          have n4_ := Aside0.mk (Kd.N_afterv (ok := (fun k_ => (w.heap.size ≤ k_) ∧ some k_ ≠ (.slice Ao31 x3_1.length co31 : Value).ownBlock ∧ k_ ≠ gb484)) (rN_ HO539.out) hg hat)
          have n5_ := Aside0.mk (hb)
          have n6_ := Aside0.mk (ho)
          clear HO_3
          clear BK484
          clear HO533
          clear HO547
          clear HO539
          clear HB
          clear HO528
          have HO_3 := n0_
          have BK484 := n1_
          have HO533 := n2_
          have HO547 := n3_
          have HO539 := n4_
          have HB := n5_
          have HO536 := n6_
          clear n0_ n1_ n2_ n3_ n4_ n5_ n6_
          clear ho hb hg hat
          refine hK.out _ _ trivial (fun hHeld => ?_)
          clear hK K
          refine no_ 58 ?_
          exact norm_ (by simp only [putAll, Act.put, List.setIfInBounds_toArray, List.set_cons_zero, List.set_cons_succ]) (hCont (v527, v535, v538) _ ⟨(by (with_reducible repeat (first | apply ZQ | apply ZO | apply ZS)); exact ZR HO533.out (fun _ hk => ⟨hk.1.1, ⟨hk.2, ⟨hk.1.2.1, hk.1.2.2⟩⟩⟩)), (rN_ HO536.out), (by (with_reducible repeat (first | apply ZG | apply ZF | apply Zv)); exact ZB HO539.out (fun _ hk => ⟨hk.1.1, ⟨hk.2, ⟨hk.1.2.1, hk.1.2.2⟩⟩⟩)), (by (with_reducible repeat (first | apply ZQ | apply ZO | apply ZS)); exact ZR HO547.out (fun _ hk => ⟨hk.1.1, ⟨hk.2, ⟨hk.1.2.1, hk.1.2.2⟩⟩⟩)), (by (with_reducible repeat (first | apply ZG | apply ZF | apply Zv)); exact ZB HO_3.out (fun _ hk => ⟨hk.1.1, ⟨hk.2, ⟨hk.1.2.1, hk.1.2.2⟩⟩⟩)), (bk_ BK484.out), hB_⟩)
         skip
         refine Kd.N_lit_step (Kd.slice 3 (Kd.int .i64)) _ 31 ?hg (N' := 54) ?hd (xs := ([] : List (List Int))) (inner := []) (ok := (fun k_ => (w.heap.size ≤ k_) ∧ some k_ ≠ (.slice Ao31 x3_1.length co31 : Value).ownBlock ∧ some k_ ≠ (.slice Ao29 x5_2.length co29 : Value).ownBlock ∧ k_ ≠ gb484)) (okp := (fun k_ => (w.heap.size ≤ k_) ∧ some k_ ≠ (.slice Ao31 x3_1.length co31 : Value).ownBlock ∧ some k_ ≠ (.slice Ao29 x5_2.length co29 : Value).ownBlock ∧ k_ ≠ gb484)) ?hr ?hp (fun _ hk => hk) ((show ∀ k_, w64.heap.size ≤ k_ → (fun k_ => (w.heap.size ≤ k_) ∧ some k_ ≠ (.slice Ao31 x3_1.length co31 : Value).ownBlock ∧ some k_ ≠ (.slice Ao29 x5_2.length co29 : Value).ownBlock ∧ k_ ≠ gb484) k_ from fun k_ hk => ⟨(Nat.le_trans (Ze hB_) hk), ZM (Kd.N_lt (rN_ HO_3.out)) k_ hk, ZM (Kd.R_lt (rR_ HO_5.out)) k_ hk, Kd.freshB (bq_ BK484.out) k_ hk⟩) _ (Nat.le_refl _)) (Below.refl _ _) (Nat.le_refl _) (by simp) ?_; (case hd => rfl); (case hg => rfl); (case hr => first | (go_simp; done) | (go_simp; rfl)); (case hp => exact (Reps.none _ _))
         intro v527 w67 ho68 hb hg_ hnew_
         clear hg_ hnew_
         (first | rw [← Ny526.out] at ho68 | (simp only [Int.reduceToNat] at ho68; rw [← Ny526.out] at ho68))
         replace HO_3 := Aside0.mk (Kd.N_elder' (rN_ HO_3.out) (Kd.N_base ho68) hb)
         replace HO_5 := Aside0.mk (Kd.R_below (rR_ HO_5.out) hb)
         replace HO533 := Aside0.mk (Kd.V_elder' (rV_ HO533.out) (Kd.N_base ho68) hb)
         replace HO547 := Aside0.mk (Kd.V_elder' (rV_ HO547.out) (Kd.N_base ho68) hb)
         have HO528 := Aside0.mk (Kd.N_lower ho68 (Ze hB_))
         replace BK484 := Aside0.mk (Zd (bq_ BK484.out) hb)
         replace HB := Aside0.mk (Zc hB_ hb)
         clear hb ho68
         refine hK.out _ _ trivial (fun hHeld => ?_)
         clear hK K
         refine no_ 54 ?_
         refine two_ (i := 4) (j := 6) (Ni := some 58) (Nj := some 60) (m_ 13 1855) (m_ 13 1903) rfl rfl rfl rfl (two_of HT_.out (by kernel_rfl)) (by decide) (by decide) (fun K hK => ?_) (fun K hK => ?_)
         ·skip
          refine Kd.N_append_rows_step (Kd.slice 3 (Kd.int .i64)) (w0 := w) w.heap.size (by rfl) (.tmp 54) (.tmp 57) 22 31 (.slice none 0 0) 24 rfl Try.underlying22 info31 rfl (by decide) (by omega) v527 y526 y529 _ _ _ (fun k_ => (w.heap.size ≤ k_) ∧ some k_ ≠ (.slice Ao29 x5_2.length co29 : Value).ownBlock ∧ k_ ≠ gb484) (fun k_ => ((fun k_ => (w.heap.size ≤ k_) ∧ some k_ ≠ (.slice Ao29 x5_2.length co29 : Value).ownBlock ∧ k_ ≠ gb484)) k_ ∧ some k_ ≠ (v527 : Value).ownBlock) rfl rfl ?aO ?aR (fun _ hk => hk) ?aF ?aB ?aS ?aL ?_
          (case aR => exact (by skip; exact Kd.V_F (ZR (ok' := (fun k_ => ((fun k_ => (w.heap.size ≤ k_) ∧ some k_ ≠ (.slice Ao29 x5_2.length co29 : Value).ownBlock ∧ k_ ≠ gb484)) k_ ∧ some k_ ≠ (v527 : Value).ownBlock)) (HO533.out) (fun k_ hk => ⟨⟨hk.1.1, ⟨hk.1.2.1, hk.1.2.2⟩⟩, hk.2⟩))))
          (case aB => exact hB_)
          (case aF => exact (fun k_ hk => ⟨(Nat.le_trans (Ze hB_) hk), ZM (Kd.R_lt (rR_ HO_5.out)) k_ hk, Kd.freshB (bq_ BK484.out) k_ hk⟩))
          (case aO => exact (by (with_reducible repeat (first | apply ZG | apply ZF | apply Zv)); exact ZB HO528.out (fun _ hk => ⟨hk.1, ⟨hk.2.2.1, hk.2.2.2⟩⟩)))
          (case aS => exact (Ze hB_))
          (case aL => have := LMc59.out; omega)
          intro v535 w69 ho hb hg hat
          rw [← Ny534.out] at ho
          have n0_ := Aside0.mk (Kd.N_afterv (ok := (fun k_ => (w.heap.size ≤ k_) ∧ some k_ ≠ (.slice Ao29 x5_2.length co29 : Value).ownBlock ∧ k_ ≠ gb484)) (rN_ HO_3.out) hg hat)
          have n1_ := Aside0.mk (Kd.R_over' (rR_ HO_5.out) (Kd.N_typed (rN_ HO528.out)) (by decide) hg)
          have n2_ := Aside0.mk (ZJ (bq_ BK484.out) hg (Kd.N_ne HO528.out BK484.out (by decide)))
          have n3_ := Aside0.mk (Kd.V_afterv (ok := (fun k_ => (w.heap.size ≤ k_) ∧ some k_ ≠ (.slice Ao29 x5_2.length co29 : Value).ownBlock ∧ k_ ≠ gb484)) (rV_ HO533.out) hg hat)
          have n4_ := Aside0.mk (Kd.V_afterv (ok := (fun k_ => (w.heap.size ≤ k_) ∧ some k_ ≠ (.slice Ao29 x5_2.length co29 : Value).ownBlock ∧ k_ ≠ gb484)) (rV_ HO547.out) hg hat)
          have n5_ := Aside0.mk (hb)
          have n6_ := Aside0.mk (ho)
          clear HO_3
          clear HO_5
          clear BK484
          clear HO533
          clear HO547
          clear HB
          clear HO528
          have HO_3 := n0_
          have HO_5 := n1_
          have BK484 := n2_
          have HO533 := n3_
          have HO547 := n4_
          have HB := n5_
          have HO536 := n6_
          clear n0_ n1_ n2_ n3_ n4_ n5_ n6_
          clear ho hb hg hat
          refine hK.out _ _ trivial (fun hHeld => ?_)
          clear hK K
          refine no_ 58 ?_
          refine on_ 6 60 (m_ 13 1919) (fun K hK => ?_)
          refine Kd.N_lit_step (Kd.slice 3 (Kd.int .i64)) _ 31 ?hg (N' := 60) ?hd (xs := ([x5_2] : List (List Int))) (inner := [.slice Ao29 x5_2.length co29]) (ok := (fun k_ => (w.heap.size ≤ k_) ∧ some k_ ≠ (.slice Ao31 x3_1.length co31 : Value).ownBlock ∧ some k_ ≠ (v535 : Value).ownBlock ∧ k_ ≠ gb484)) (okp := (fun k_ => (w.heap.size ≤ k_) ∧ some k_ ≠ (.slice Ao31 x3_1.length co31 : Value).ownBlock ∧ some k_ ≠ (v535 : Value).ownBlock ∧ k_ ≠ gb484)) ?hr ?hp (fun _ hk => hk) ((show ∀ k_, w69.heap.size ≤ k_ → (fun k_ => (w.heap.size ≤ k_) ∧ some k_ ≠ (.slice Ao31 x3_1.length co31 : Value).ownBlock ∧ some k_ ≠ (v535 : Value).ownBlock ∧ k_ ≠ gb484) k_ from fun k_ hk => ⟨(Nat.le_trans (Ze hB_) hk), ZM (Kd.N_lt (rN_ HO_3.out)) k_ hk, ZM (Kd.N_lt (rN_ HO536.out)) k_ hk, Kd.freshB (bq_ BK484.out) k_ hk⟩) _ (Nat.le_refl _)) (Below.refl _ _) (Nat.le_refl _) (by simp) ?_; (case hd => rfl); (case hg => rfl); (case hr => first | (go_simp; done) | (go_simp; rfl)); (case hp => exact (Reps.one (show Kd.FK (Kd.slice 3 (Kd.int .i64)) _ _ x5_2 [.slice Ao29 x5_2.length co29] from (Kd.FK_slice_mk (ZE (ZK (ok' := (fun k_ => (w.heap.size ≤ k_) ∧ some k_ ≠ (.slice Ao31 x3_1.length co31 : Value).ownBlock ∧ some k_ ≠ (v535 : Value).ownBlock ∧ k_ ≠ gb484)) (Kd.R_types (ZN (ZN (HO_5.out) (Kd.N_typed HO_3.out) (by decide)) (Kd.N_typed HO536.out) (by decide)) BK484.out (by decide)) (fun k_ hk => ⟨hk.1.1.1, ⟨hk.1.1.2, ⟨hk.1.2, hk.2⟩⟩⟩))).2.1 (Kd.R_F (ZK (ok' := (fun k_ => (w.heap.size ≤ k_) ∧ some k_ ≠ (.slice Ao31 x3_1.length co31 : Value).ownBlock ∧ some k_ ≠ (v535 : Value).ownBlock ∧ k_ ≠ gb484)) (Kd.R_types (ZN (ZN (HO_5.out) (Kd.N_typed HO_3.out) (by decide)) (Kd.N_typed HO536.out) (by decide)) BK484.out (by decide)) (fun k_ hk => ⟨hk.1.1.1, ⟨hk.1.1.2, ⟨hk.1.2, hk.2⟩⟩⟩))))) (Reps.none _ _)))
          intro v538 w70 ho71 hb hg_ hnew_
          clear hg_ hnew_
          (first | rw [← Ny537.out] at ho71 | (simp only [Int.reduceToNat] at ho71; rw [← Ny537.out] at ho71))
          have n0_ := Aside0.mk (Kd.N_elder' (rN_ HO_3.out) (Kd.N_base ho71) hb)
          have n1_ := Aside0.mk (Kd.V_elder' (rV_ HO533.out) (Kd.N_base ho71) hb)
          have n2_ := Aside0.mk (Kd.V_elder' (rV_ HO547.out) (Kd.N_base ho71) hb)
          have n3_ := Aside0.mk (Kd.N_elder' (rN_ HO536.out) (Kd.N_base ho71) hb)
          have n4_ := Aside0.mk (Kd.N_lower ho71 (Ze hB_))
          have n5_ := Aside0.mk (Zd (bq_ BK484.out) hb)
          have n6_ := Aside0.mk (Zc hB_ hb)
          clear HO_3
          clear HO533
          clear HO547
          clear HO536
          clear BK484
          clear HB
          clear HO_5
          have HO_3 := n0_
          have HO533 := n1_
          have HO547 := n2_
          have HO536 := n3_
          have HO539 := n4_
          have BK484 := n5_
          have HB := n6_
          clear n0_ n1_ n2_ n3_ n4_ n5_ n6_
          clear hb ho71
          refine hK.out _ _ trivial (fun hHeld => ?_)
          clear hK K
          refine no_ 60 ?_
          exact norm_ (by simp only [putAll, Act.put, List.setIfInBounds_toArray, List.set_cons_zero, List.set_cons_succ]) (hCont (v527, v535, v538) _ ⟨(by (with_reducible repeat (first | apply ZQ | apply ZO | apply ZS)); exact ZR HO533.out (fun _ hk => ⟨hk.1.1.1, ⟨hk.1.2, ⟨hk.2, hk.1.1.2.2⟩⟩⟩)), (by (with_reducible repeat (first | apply ZG | apply ZF | apply Zv)); exact ZB HO536.out (fun _ hk => ⟨hk.1.1, ⟨hk.2, hk.1.2.2⟩⟩)), (by (with_reducible repeat (first | apply ZG | apply ZF | apply Zv)); exact ZB HO539.out (fun _ hk => ⟨hk.1, ⟨hk.2.2.1, ⟨hk.2.1, hk.2.2.2⟩⟩⟩)), (by (with_reducible repeat (first | apply ZQ | apply ZO | apply ZS)); exact ZR HO547.out (fun _ hk => ⟨hk.1.1.1, ⟨hk.1.2, ⟨hk.2, hk.1.1.2.2⟩⟩⟩)), (by (with_reducible repeat (first | apply ZG | apply ZF | apply Zv)); exact ZB HO_3.out (fun _ hk => ⟨hk.1.1.1, ⟨hk.1.2, ⟨hk.2, hk.1.1.2.2⟩⟩⟩)), (bk_ BK484.out), hB_⟩)
         skip
         refine Kd.N_lit_step (Kd.slice 3 (Kd.int .i64)) _ 31 ?hg (N' := 60) ?hd (xs := ([x5_2] : List (List Int))) (inner := [.slice Ao29 x5_2.length co29]) (ok := (fun k_ => (w.heap.size ≤ k_) ∧ some k_ ≠ (.slice Ao31 x3_1.length co31 : Value).ownBlock ∧ some k_ ≠ (v527 : Value).ownBlock ∧ k_ ≠ gb484)) (okp := (fun k_ => (w.heap.size ≤ k_) ∧ some k_ ≠ (.slice Ao31 x3_1.length co31 : Value).ownBlock ∧ some k_ ≠ (v527 : Value).ownBlock ∧ k_ ≠ gb484)) ?hr ?hp (fun _ hk => hk) ((show ∀ k_, w67.heap.size ≤ k_ → (fun k_ => (w.heap.size ≤ k_) ∧ some k_ ≠ (.slice Ao31 x3_1.length co31 : Value).ownBlock ∧ some k_ ≠ (v527 : Value).ownBlock ∧ k_ ≠ gb484) k_ from fun k_ hk => ⟨(Nat.le_trans (Ze hB_) hk), ZM (Kd.N_lt (rN_ HO_3.out)) k_ hk, ZM (Kd.N_lt (rN_ HO528.out)) k_ hk, Kd.freshB (bq_ BK484.out) k_ hk⟩) _ (Nat.le_refl _)) (Below.refl _ _) (Nat.le_refl _) (by simp) ?_; (case hd => rfl); (case hg => rfl); (case hr => first | (go_simp; done) | (go_simp; rfl)); (case hp => exact (Reps.one (show Kd.FK (Kd.slice 3 (Kd.int .i64)) _ _ x5_2 [.slice Ao29 x5_2.length co29] from (Kd.FK_slice_mk (ZE (ZK (ok' := (fun k_ => (w.heap.size ≤ k_) ∧ some k_ ≠ (.slice Ao31 x3_1.length co31 : Value).ownBlock ∧ some k_ ≠ (v527 : Value).ownBlock ∧ k_ ≠ gb484)) (Kd.R_types (ZN (ZN (HO_5.out) (Kd.N_typed HO_3.out) (by decide)) (Kd.N_typed HO528.out) (by decide)) BK484.out (by decide)) (fun k_ hk => ⟨hk.1.1.1, ⟨hk.1.1.2, ⟨hk.1.2, hk.2⟩⟩⟩))).2.1 (Kd.R_F (ZK (ok' := (fun k_ => (w.heap.size ≤ k_) ∧ some k_ ≠ (.slice Ao31 x3_1.length co31 : Value).ownBlock ∧ some k_ ≠ (v527 : Value).ownBlock ∧ k_ ≠ gb484)) (Kd.R_types (ZN (ZN (HO_5.out) (Kd.N_typed HO_3.out) (by decide)) (Kd.N_typed HO528.out) (by decide)) BK484.out (by decide)) (fun k_ hk => ⟨hk.1.1.1, ⟨hk.1.1.2, ⟨hk.1.2, hk.2⟩⟩⟩))))) (Reps.none _ _)))
         intro v538 w69 ho70 hb hg_ hnew_
         clear hg_ hnew_
         (first | rw [← Ny537.out] at ho70 | (simp only [Int.reduceToNat] at ho70; rw [← Ny537.out] at ho70))
         have n0_ := Aside0.mk (Kd.N_elder' (rN_ HO_3.out) (Kd.N_base ho70) hb)
         have n1_ := Aside0.mk (Kd.V_elder' (rV_ HO533.out) (Kd.N_base ho70) hb)
         have n2_ := Aside0.mk (Kd.V_elder' (rV_ HO547.out) (Kd.N_base ho70) hb)
         have n3_ := Aside0.mk (Kd.N_elder' (rN_ HO528.out) (Kd.N_base ho70) hb)
         have n4_ := Aside0.mk (Kd.N_lower ho70 (Ze hB_))
         have n5_ := Aside0.mk (Zd (bq_ BK484.out) hb)
         have n6_ := Aside0.mk (Zc hB_ hb)
         clear HO_3
         clear HO533
         clear HO547
         clear HO528
         clear BK484
         clear HB
         clear HO_5
         have HO_3 := n0_
         have HO533 := n1_
         have HO547 := n2_
         have HO528 := n3_
         have HO539 := n4_
         have BK484 := n5_
         have HB := n6_
         clear n0_ n1_ n2_ n3_ n4_ n5_ n6_
         clear hb ho70
         refine hK.out _ _ trivial (fun hHeld => ?_)
         clear hK K
         refine no_ 60 ?_
         refine on_ 4 58 (m_ 13 1919) (fun K hK => ?_)
         refine Kd.N_append_rows_step (Kd.slice 3 (Kd.int .i64)) (w0 := w) w.heap.size (by rfl) (.tmp 54) (.tmp 57) 22 31 (.slice none 0 0) 24 rfl Try.underlying22 info31 rfl (by decide) (by omega) v527 y526 y529 _ _ _ (fun k_ => (w.heap.size ≤ k_) ∧ some k_ ≠ (v538 : Value).ownBlock ∧ k_ ≠ gb484) (fun k_ => ((fun k_ => (w.heap.size ≤ k_) ∧ some k_ ≠ (v538 : Value).ownBlock ∧ k_ ≠ gb484)) k_ ∧ some k_ ≠ (v527 : Value).ownBlock) rfl rfl ?aO ?aR (fun _ hk => hk) ?aF ?aB ?aS ?aL ?_
         (case aR => exact (by skip; exact Kd.V_F (ZR (ok' := (fun k_ => ((fun k_ => (w.heap.size ≤ k_) ∧ some k_ ≠ (v538 : Value).ownBlock ∧ k_ ≠ gb484)) k_ ∧ some k_ ≠ (v527 : Value).ownBlock)) (HO533.out) (fun k_ hk => ⟨⟨hk.1.1.1, ⟨hk.2, hk.1.1.2.2⟩⟩, hk.1.2⟩))))
         (case aB => exact hB_)
         (case aF => exact (fun k_ hk => ⟨(Nat.le_trans (Ze hB_) hk), ZM (Kd.N_lt (rN_ HO539.out)) k_ hk, Kd.freshB (bq_ BK484.out) k_ hk⟩))
         (case aO => exact (by (with_reducible repeat (first | apply ZG | apply ZF | apply Zv)); exact ZB HO528.out (fun _ hk => ⟨hk.1.1, ⟨hk.2, hk.1.2.2.2⟩⟩)))
         (case aS => exact (Ze hB_))
         (case aL => have := LMc59.out; omega)
         intro v535 w71 ho hb hg hat
         rw [← Ny534.out] at ho
         have n0_ := Aside0.mk (Kd.N_afterv (ok := (fun k_ => (w.heap.size ≤ k_) ∧ some k_ ≠ (v538 : Value).ownBlock ∧ k_ ≠ gb484)) (by (with_reducible repeat (first | apply ZG | apply ZF | apply Zv)); exact ZB HO_3.out (fun _ hk => ⟨⟨hk.1.1.1, ⟨hk.2, hk.1.1.2.2⟩⟩, hk.1.2⟩)) hg hat)
         have n1_ := Aside0.mk (ZJ (bq_ BK484.out) hg (Kd.N_ne HO528.out BK484.out (by decide)))
         have n2_ := Aside0.mk (Kd.V_afterv (ok := (fun k_ => (w.heap.size ≤ k_) ∧ some k_ ≠ (v538 : Value).ownBlock ∧ k_ ≠ gb484)) (by (with_reducible repeat (first | apply ZQ | apply ZO | apply ZS)); exact ZR HO533.out (fun _ hk => ⟨⟨hk.1.1.1, ⟨hk.2, hk.1.1.2.2⟩⟩, hk.1.2⟩)) hg hat)
         have n3_ := Aside0.mk (Kd.V_afterv (ok := (fun k_ => (w.heap.size ≤ k_) ∧ some k_ ≠ (v538 : Value).ownBlock ∧ k_ ≠ gb484)) (by (with_reducible repeat (first | apply ZQ | apply ZO | apply ZS)); exact ZR HO547.out (fun _ hk => ⟨⟨hk.1.1.1, ⟨hk.2, hk.1.1.2.2⟩⟩, hk.1.2⟩)) hg hat)
         have n4_ := Aside0.mk (Kd.N_afterv (ok := (fun k_ => (w.heap.size ≤ k_) ∧ some k_ ≠ (.slice Ao31 x3_1.length co31 : Value).ownBlock ∧ k_ ≠ gb484)) (by (with_reducible repeat (first | apply ZG | apply ZF | apply Zv)); exact ZB HO539.out (fun _ hk => ⟨⟨hk.1, ⟨hk.2.1, hk.2.2.2⟩⟩, hk.2.2.1⟩)) hg hat)
         have n5_ := Aside0.mk (hb)
         have n6_ := Aside0.mk (ho)
         clear HO_3
         clear BK484
         clear HO533
         clear HO547
         clear HO539
         clear HB
         clear HO528
         have HO_3 := n0_
         have BK484 := n1_
         have HO533 := n2_
         have HO547 := n3_
         have HO539 := n4_
         have HB := n5_
         have HO536 := n6_
         clear n0_ n1_ n2_ n3_ n4_ n5_ n6_
         clear ho hb hg hat
         refine hK.out _ _ trivial (fun hHeld => ?_)
         clear hK K
         refine no_ 58 ?_
         exact norm_ (by simp only [putAll, Act.put, List.setIfInBounds_toArray, List.set_cons_zero, List.set_cons_succ]) (hCont (v527, v535, v538) _ ⟨(by (with_reducible repeat (first | apply ZQ | apply ZO | apply ZS)); exact ZR HO533.out (fun _ hk => ⟨hk.1.1, ⟨hk.2, ⟨hk.1.2.1, hk.1.2.2⟩⟩⟩)), (rN_ HO536.out), (by (with_reducible repeat (first | apply ZG | apply ZF | apply Zv)); exact ZB HO539.out (fun _ hk => ⟨hk.1.1, ⟨hk.2, ⟨hk.1.2.1, hk.1.2.2⟩⟩⟩)), (by (with_reducible repeat (first | apply ZQ | apply ZO | apply ZS)); exact ZR HO547.out (fun _ hk => ⟨hk.1.1, ⟨hk.2, ⟨hk.1.2.1, hk.1.2.2⟩⟩⟩)), (by (with_reducible repeat (first | apply ZG | apply ZF | apply Zv)); exact ZB HO_3.out (fun _ hk => ⟨hk.1.1, ⟨hk.2, ⟨hk.1.2.1, hk.1.2.2⟩⟩⟩)), (bk_ BK484.out), hB_⟩)
        rintro ⟨v527, v535, v538⟩ w72 ⟨h0_, h1_, h2_, h3_, h4_, h5_, h6_⟩
        have n0_ : Aside0 (Kd.V (Kd.slice 3 (Kd.int .i64)) 31 w72 w.heap.size (fun k_ => (w.heap.size ≤ k_) ∧ some k_ ≠ (v535 : Value).ownBlock ∧ some k_ ≠ (v538 : Value).ownBlock ∧ k_ ≠ gb484) (.slice Ao31 y529.length co31) y529) := ⟨h0_⟩
        have n1_ : Aside0 (Kd.N (Kd.slice 3 (Kd.int .i64)) 31 w72 w.heap.size (fun k_ => (w.heap.size ≤ k_) ∧ some k_ ≠ (v538 : Value).ownBlock ∧ k_ ≠ gb484) v535 y534) := ⟨h1_⟩
        have n2_ : Aside0 (Kd.N (Kd.slice 3 (Kd.int .i64)) 31 w72 w.heap.size (fun k_ => (w.heap.size ≤ k_) ∧ some k_ ≠ (v535 : Value).ownBlock ∧ some k_ ≠ (.slice Ao31 x3_1.length co31 : Value).ownBlock ∧ k_ ≠ gb484) v538 y537) := ⟨h2_⟩
        have n3_ : Aside0 (Kd.V (Kd.slice 3 (Kd.int .i64)) 31 w72 w.heap.size (fun k_ => (w.heap.size ≤ k_) ∧ some k_ ≠ (v535 : Value).ownBlock ∧ some k_ ≠ (v538 : Value).ownBlock ∧ k_ ≠ gb484) (.slice A66 y543.length c66) y543) := ⟨h3_⟩
        have n4_ : Aside0 (Kd.N (Kd.slice 3 (Kd.int .i64)) 31 w72 w.heap.size (fun k_ => (w.heap.size ≤ k_) ∧ some k_ ≠ (v535 : Value).ownBlock ∧ some k_ ≠ (v538 : Value).ownBlock ∧ k_ ≠ gb484) (.slice Ao31 x3_1.length co31) x3_1) := ⟨h4_⟩
        have n5_ : Aside0 (w72.heap[gb484]? = some (.cells #[.int .i64 a0_0, .slice A0_1 l0_1.length c0_1] 27 (0, 0))) := ⟨h5_⟩
        have n6_ : Aside0 (Below w.heap.size w w72) := ⟨h6_⟩
        clear HO_3
        clear HO_5
        clear BK484
        clear HB
        clear h0_ h1_ h2_ h3_ h4_ h5_ h6_
        have HO533 := n0_
        have HO536 := n1_
        have HO539 := n2_
        have HO547 := n3_
        have HO_3 := n4_
        have BK484 := n5_
        have HB := n6_
        clear n0_ n1_ n2_ n3_ n4_ n5_ n6_
        have hHeld := trivial
        obtain ⟨Ao74, co74, eo74⟩ := Kd.N_slice HO539.out
        (first | subst eo74 | (injection eo74 with f1_ f2_ f3_; have f4_ := f1_.symm; have f5_ := f3_.symm; clear f1_ f2_ f3_; subst f4_; subst f5_))
        refine norm_ (a' := ?_) ?_ ?_
        rotate_left
        ·simp only [putAll, Act.put, List.setIfInBounds_toArray, List.set_cons_zero, List.set_cons_succ]
         rfl
        refine on_ 7 61 (m_ 13 2047) (fun K hK => ?_)
        refine Kd.N_append_rows_step (Kd.slice 3 (Kd.int .i64)) (w0 := w) w.heap.size (by rfl) (.tmp 58) (.tmp 60) 22 31 (.slice none 0 0) 24 rfl Try.underlying22 info31 rfl (by decide) (by omega) v535 y534 y537 _ _ _ (fun k_ => (w.heap.size ≤ k_) ∧ k_ ≠ gb484) (fun k_ => ((fun k_ => (w.heap.size ≤ k_) ∧ k_ ≠ gb484)) k_ ∧ some k_ ≠ (v535 : Value).ownBlock) rfl rfl ?aO ?aR (fun _ hk => hk) ?aF ?aB ?aS ?aL ?_
        (case aR => exact (by skip; exact Kd.N_F (ZB (ok' := (fun k_ => ((fun k_ => (w.heap.size ≤ k_) ∧ k_ ≠ gb484)) k_ ∧ some k_ ≠ (v535 : Value).ownBlock)) (HO539.out) (fun k_ hk => ⟨⟨hk.1, hk.2.2.2⟩, hk.2.1⟩))))
        (case aB => exact hB_)
        (case aF => exact (fun k_ hk => ⟨(Nat.le_trans (Ze hB_) hk), Kd.freshB (bq_ BK484.out) k_ hk⟩))
        (case aO => exact (by (with_reducible repeat (first | apply ZG | apply ZF | apply Zv)); exact ZB HO536.out (fun _ hk => ⟨hk.1, hk.2.2⟩)))
        (case aS => exact (Ze hB_))
        (case aL => have := LMc60.out; omega)
        intro v541 w73 ho hb hg hat
        rw [← Ny540.out] at ho
        have n0_ := Aside0.mk (Kd.N_afterv (ok := (fun k_ => (w.heap.size ≤ k_) ∧ some k_ ≠ (.slice Ao74 y537.length co74 : Value).ownBlock ∧ k_ ≠ gb484)) (by (with_reducible repeat (first | apply ZG | apply ZF | apply Zv)); exact ZB HO_3.out (fun _ hk => ⟨⟨hk.1, ⟨hk.2.2.1, hk.2.2.2⟩⟩, hk.2.1⟩)) hg hat)
        have n1_ := Aside0.mk (ZJ (bq_ BK484.out) hg (Kd.N_ne HO536.out BK484.out (by decide)))
        have n2_ := Aside0.mk (Kd.V_afterv (ok := (fun k_ => (w.heap.size ≤ k_) ∧ some k_ ≠ (.slice Ao74 y537.length co74 : Value).ownBlock ∧ k_ ≠ gb484)) (by (with_reducible repeat (first | apply ZQ | apply ZO | apply ZS)); exact ZR HO533.out (fun _ hk => ⟨⟨hk.1, ⟨hk.2.2.1, hk.2.2.2⟩⟩, hk.2.1⟩)) hg hat)
        have n3_ := Aside0.mk (Kd.V_afterv (ok := (fun k_ => (w.heap.size ≤ k_) ∧ some k_ ≠ (.slice Ao74 y537.length co74 : Value).ownBlock ∧ k_ ≠ gb484)) (by (with_reducible repeat (first | apply ZQ | apply ZO | apply ZS)); exact ZR HO547.out (fun _ hk => ⟨⟨hk.1, ⟨hk.2.2.1, hk.2.2.2⟩⟩, hk.2.1⟩)) hg hat)
        have n4_ := Aside0.mk (Kd.N_afterv (ok := (fun k_ => (w.heap.size ≤ k_) ∧ some k_ ≠ (.slice Ao31 x3_1.length co31 : Value).ownBlock ∧ k_ ≠ gb484)) (by (with_reducible repeat (first | apply ZG | apply ZF | apply Zv)); exact ZB HO539.out (fun _ hk => ⟨⟨hk.1, ⟨hk.2.2.1, hk.2.2.2⟩⟩, hk.2.1⟩)) hg hat)
        have n5_ := Aside0.mk (hb)
        have n6_ := Aside0.mk (ho)
        clear HO_3
        clear BK484
        clear HO533
        clear HO547
        clear HO539
        clear HB
        clear HO536
        have HO_3 := n0_
        have BK484 := n1_
        have HO533 := n2_
        have HO547 := n3_
        have HO539 := n4_
        have HB := n5_
        have HO542 := n6_
        clear n0_ n1_ n2_ n3_ n4_ n5_ n6_
        clear ho hb hg hat
        refine hK.out _ _ trivial (fun hHeld => ?_)
        clear hK K
        refine no_ 61 ?_
        refine on_ 11 65 (m_ 13 4095) (fun K hK => ?_)
        refine Kd.N_append_rows_step (Kd.slice 3 (Kd.int .i64)) (w0 := w) w.heap.size (by rfl) (.tmp 61) (.tmp 64) 22 31 (.slice none 0 0) 24 rfl Try.underlying22 info31 rfl (by decide) (by omega) v541 y540 y543 _ _ _ (fun k_ => (w.heap.size ≤ k_) ∧ k_ ≠ gb484) (fun k_ => ((fun k_ => (w.heap.size ≤ k_) ∧ k_ ≠ gb484)) k_ ∧ some k_ ≠ (v541 : Value).ownBlock) rfl rfl ?aO ?aR (fun _ hk => hk) ?aF ?aB ?aS ?aL ?_
        (case aR => exact (by skip; exact Kd.V_F (ZR (ok' := (fun k_ => ((fun k_ => (w.heap.size ≤ k_) ∧ k_ ≠ gb484)) k_ ∧ some k_ ≠ (v541 : Value).ownBlock)) (HO547.out) (fun k_ hk => ⟨⟨hk.1.1, hk.1.2.2⟩, hk.2⟩))))
        (case aB => exact hB_)
        (case aF => exact (fun k_ hk => ⟨(Nat.le_trans (Ze hB_) hk), Kd.freshB (bq_ BK484.out) k_ hk⟩))
        (case aO => exact (rN_ HO542.out))
        (case aS => exact (Ze hB_))
        (case aL => have := LMc63.out; omega)
        intro v549 w75 ho hb hg hat
        rw [← Ny548.out] at ho
        have n0_ := Aside0.mk (Kd.N_afterv (ok := (fun k_ => (w.heap.size ≤ k_) ∧ some k_ ≠ (.slice Ao74 y537.length co74 : Value).ownBlock ∧ k_ ≠ gb484)) (rN_ HO_3.out) hg hat)
        have n1_ := Aside0.mk (ZJ (bq_ BK484.out) hg (Kd.N_ne HO542.out BK484.out (by decide)))
        have n2_ := Aside0.mk (Kd.V_afterv (ok := (fun k_ => (w.heap.size ≤ k_) ∧ some k_ ≠ (.slice Ao74 y537.length co74 : Value).ownBlock ∧ k_ ≠ gb484)) (rV_ HO533.out) hg hat)
        have n3_ := Aside0.mk (Kd.V_afterv (ok := (fun k_ => (w.heap.size ≤ k_) ∧ some k_ ≠ (.slice Ao74 y537.length co74 : Value).ownBlock ∧ k_ ≠ gb484)) (rV_ HO547.out) hg hat)
        have n4_ := Aside0.mk (Kd.N_afterv (ok := (fun k_ => (w.heap.size ≤ k_) ∧ some k_ ≠ (.slice Ao31 x3_1.length co31 : Value).ownBlock ∧ k_ ≠ gb484)) (rN_ HO539.out) hg hat)
        have n5_ := Aside0.mk (hb)
        have n6_ := Aside0.mk (ho)
        clear HO_3
        clear BK484
        clear HO533
        clear HO547
        clear HO539
        clear HB
        clear HO542
        have HO_3 := n0_
        have BK484 := n1_
        have HO533 := n2_
        have HO547 := n3_
        have HO539 := n4_
        have HB := n5_
        have HO550 := n6_
        clear n0_ n1_ n2_ n3_ n4_ n5_ n6_
        clear ho hb hg hat
        refine hK.out _ _ trivial (fun hHeld => ?_)
        clear hK K
        refine no_ 65 ?_
        refine pu_ 12 3 (m_ 13 8191) ?_
        refine done_ (done_of HT_.out (by kernel_rfl)) ?_
        try go_wp2
        go_roundg k3
        case measure => have := HK1.out; have := HK2.out; have := HK3.out; omega
        case rel => exact ⟨(y548), (wrap64 (x4_1 + 1)), sm_, H', ⟨by have := HK1.out; have := HK2.out; have := HK3.out; omega⟩, ⟨rN_ HO550.out⟩, ⟨bk_ BK484.out⟩, ⟨hB_⟩⟩
       rw [if_pos c32] at H
       have c32b0 : decide (0 < x7_3) = true := decide_eq_true c32
       clear c32
       obtain ⟨ji33, hji33⟩ : ∃ j_ : Int, (wrap64 (x7_3 - 1)) = j_ := ⟨_, rfl⟩
       replace H : (if 0 ≤ (ji33) then (if (ji33) < (x3_1.length : Int) then ((spec_l7Before.f k3 x5_2 (rd_L2 x3_1 (ji33))).bind fun t500 => (if t500 = true then (spec_AllComplete.l2 k3 x3_1 x4_1 x5_2 ji33 a0_0 l0_1) else ((some (([] : List (List Int)) : List (List Int))).bind fun y501 => (if 0 ≤ x7_3 then (if x7_3 ≤ (x3_1.length : Int) then ((some (x3_1.take (x7_3 : Int).toNat : List (List Int))).bind fun y504 => (if y501.length + y504.length < 5864062014805 then ((some (y501 ++ y504 : List (List Int))).bind fun y509 => ((some (([x5_2] : List (List Int)) : List (List Int))).bind fun y512 => (if y509.length + y512.length < 5864062014805 then ((some (y509 ++ y512 : List (List Int))).bind fun y515 => ((some (x3_1.drop (x7_3 : Int).toNat : List (List Int))).bind fun y518 => (if y515.length + y518.length < 5864062014805 then (spec_AllComplete.l0 k3 (y515 ++ y518) (wrap64 (x4_1 + 1)) a0_0 l0_1) else (none)))) else (none)))) else (none))) else (none)) else (none))))) else (none)) else (none)) = some r := by first | (rw [hji33] at H; exact H) | (simp only [hji33] at H ⊢; exact H)
       have hji33w : (IntKind.i64.wrap (x7_3 - 1)) = ji33 := (i64_w _).trans hji33
       by_cases c34 : 0 ≤ (ji33)
       rotate_left
       ·rw [if_neg c34] at H
        exact absurd H (by simp)
       rw [if_pos c34] at H
       have c34b0 : decide (0 ≤ (ji33)) = true := decide_eq_true c34
       clear c34
       by_cases c35 : (ji33) < (x3_1.length : Int)
       rotate_left
       ·rw [if_neg c35] at H
        exact absurd H (by simp)
       rw [if_pos c35] at H
       have c35b0 : decide ((ji33) < (x3_1.length : Int)) = true := decide_eq_true c35
       clear c35
       obtain ⟨t500, A36, H⟩ := bd_ H
       try dsimp only at H
       by_cases c37 : t500 = true
       ·subst c37
        rw [if_pos rfl] at H
        try dsimp only at H
        have H' := Aside0.mk H
        clear H
        have p499 : 0 ≤ ((ji33) : Int) := of_decide_eq_true as_
        have q499 : (ji33) < (x3_1.length : Int) := of_decide_eq_true as_
        obtain ⟨ad499, A499_0, c499_0, e499, hx499_0, hl499_0, hi499_0⟩ := at_L2 (Zn HO_3.out).2.2 (ji33) p499 q499
        cases e499
        obtain ⟨ce499, hce499, hMe499, hcc499⟩ := Kd.N_get HO_3.out [] (ji33) p499 (by first | exact q499 | exact of_decide_eq_true as_ | (have e_ := (Zn HO_3.out).1; omega))
        obtain ⟨ua499_0, uc499_0, rfl, ul499_0, ge499_0⟩ := Kd.FK_slice_open hMe499
        have hv499_0 := hcc499 0 _ rfl
        rw [Nat.add_zero, show ((Kd.slice 3 (Kd.int .i64))).sz = 1 from rfl, Nat.mul_one] at hv499_0
        replace hv499_0 := Option.some.inj (hv499_0.symm.trans hx499_0)
        injection hv499_0 with hva_ hvn_ hvc_
        rw [hva_] at ge499_0
        rw [hvc_] at ul499_0
        have HL499_0 := Aside0.mk (show Kd.V (Kd.int .i64) 3 _ w.heap.size _ _ (rd_L2 x3_1 (ji33)) from Kd.V_mk ul499_0 ge499_0)
        clear hva_ hvn_ hvc_ ge499_0 ul499_0
        clear hcc499 hce499
        have HR499_0 := Aside0.mk hi499_0
        have HC499_0 := Aside0.mk hl499_0
        clear hi499_0 hl499_0
        replace p499 := eq_true p499
        replace q499 := eq_true q499
        go_wp2_with (first | (go_at_call 69; (with_reducible refine (spec_l7Before.calls k3 _ _ x5_2 _ _ (rd_L2 x3_1 (ji33)) true _ ?side1 ?side2 ?side3 ?side4 A36.out).mono ?_); (case side1 => exact sA_ (ZE HO_5.out).2.2); (case side2 => exact (ZE HO_5.out).2.1); (case side3 => exact sA_ (cf_ HR499_0.out)); (case side4 => exact HC499_0.out); rintro e w' ⟨rfl, ⟨nd, rfl⟩⟩))
        go_roundg k3
        case measure => have := HK1.out; have := HK2.out; have := HK3.out; omega
        case rel => exact ⟨(ji33), (by first | rfl | (simp; done) | (simp only [← hji33] <;> (first | rfl | simp)) | (simp [*]; done)), H', ⟨by have := HK1.out; have := HK2.out; have := HK3.out; omega⟩, ⟨rN_ HO_3.out⟩, ⟨rR_ HO_5.out⟩, ⟨bk_ BK484.out⟩, ⟨hB_⟩⟩
       replace c37 := Bool.eq_false_iff.mpr c37
       subst c37
       rw [if_neg (show ¬ (false = true) by decide)] at H
       try dsimp only at H
       obtain ⟨y501, hy501⟩ : ∃ y_ : List (List Int), y_ = (([] : List (List Int))) := ⟨_, rfl⟩
       replace H : (if 0 ≤ x7_3 then (if x7_3 ≤ (x3_1.length : Int) then ((some (x3_1.take (x7_3 : Int).toNat : List (List Int))).bind fun y504 => (if y501.length + y504.length < 5864062014805 then ((some (y501 ++ y504 : List (List Int))).bind fun y509 => ((some (([x5_2] : List (List Int)) : List (List Int))).bind fun y512 => (if y509.length + y512.length < 5864062014805 then ((some (y509 ++ y512 : List (List Int))).bind fun y515 => ((some (x3_1.drop (x7_3 : Int).toNat : List (List Int))).bind fun y518 => (if y515.length + y518.length < 5864062014805 then (spec_AllComplete.l0 k3 (y515 ++ y518) (wrap64 (x4_1 + 1)) a0_0 l0_1) else (none)))) else (none)))) else (none))) else (none)) else (none)) = some r := hy_ hy501 H
       have Ny501 := Aside0.mk hy501
       clear hy501
       by_cases c38 : 0 ≤ x7_3
       rotate_left
       ·rw [if_neg c38] at H
        exact absurd H (by simp)
       rw [if_pos c38] at H
       have c38b0 := eq_true c38
       have c38b1 : decide (0 ≤ x7_3) = true := decide_eq_true c38
       clear c38
       by_cases c39 : x7_3 ≤ (x3_1.length : Int)
       rotate_left
       ·rw [if_neg c39] at H
        exact absurd H (by simp)
       rw [if_pos c39] at H
       have c39b0 := eq_true c39
       have c39b1 : decide (x7_3 ≤ (x3_1.length : Int)) = true := decide_eq_true c39
       clear c39
       obtain ⟨y504, hy504⟩ : ∃ y_ : List (List Int), y_ = (x3_1.take (x7_3 : Int).toNat) := ⟨_, rfl⟩
       replace H : (if y501.length + y504.length < 5864062014805 then ((some (y501 ++ y504 : List (List Int))).bind fun y509 => ((some (([x5_2] : List (List Int)) : List (List Int))).bind fun y512 => (if y509.length + y512.length < 5864062014805 then ((some (y509 ++ y512 : List (List Int))).bind fun y515 => ((some (x3_1.drop (x7_3 : Int).toNat : List (List Int))).bind fun y518 => (if y515.length + y518.length < 5864062014805 then (spec_AllComplete.l0 k3 (y515 ++ y518) (wrap64 (x4_1 + 1)) a0_0 l0_1) else (none)))) else (none)))) else (none)) = some r := hy_ hy504 H
       have Ny504 := Aside0.mk hy504
       clear hy504
       by_cases c40 : y501.length + y504.length < 5864062014805
       rotate_left
       ·rw [if_neg c40] at H
        exact absurd H (by simp)
       rw [if_pos c40] at H
       have LMc40 := Aside0.mk c40
       clear c40
       obtain ⟨y509, hy509⟩ : ∃ y_ : List (List Int), y_ = (y501 ++ y504) := ⟨_, rfl⟩
       replace H : ((some (([x5_2] : List (List Int)) : List (List Int))).bind fun y512 => (if y509.length + y512.length < 5864062014805 then ((some (y509 ++ y512 : List (List Int))).bind fun y515 => ((some (x3_1.drop (x7_3 : Int).toNat : List (List Int))).bind fun y518 => (if y515.length + y518.length < 5864062014805 then (spec_AllComplete.l0 k3 (y515 ++ y518) (wrap64 (x4_1 + 1)) a0_0 l0_1) else (none)))) else (none))) = some r := hy_ hy509 H
       have Ny509 := Aside0.mk hy509
       clear hy509
       obtain ⟨y512, hy512⟩ : ∃ y_ : List (List Int), y_ = (([x5_2] : List (List Int))) := ⟨_, rfl⟩
       replace H : (if y509.length + y512.length < 5864062014805 then ((some (y509 ++ y512 : List (List Int))).bind fun y515 => ((some (x3_1.drop (x7_3 : Int).toNat : List (List Int))).bind fun y518 => (if y515.length + y518.length < 5864062014805 then (spec_AllComplete.l0 k3 (y515 ++ y518) (wrap64 (x4_1 + 1)) a0_0 l0_1) else (none)))) else (none)) = some r := hy_ hy512 H
       have Ny512 := Aside0.mk hy512
       clear hy512
       by_cases c41 : y509.length + y512.length < 5864062014805
       rotate_left
       ·rw [if_neg c41] at H
        exact absurd H (by simp)
       rw [if_pos c41] at H
       have LMc41 := Aside0.mk c41
       clear c41
       obtain ⟨y515, hy515⟩ : ∃ y_ : List (List Int), y_ = (y509 ++ y512) := ⟨_, rfl⟩
       replace H : ((some (x3_1.drop (x7_3 : Int).toNat : List (List Int))).bind fun y518 => (if y515.length + y518.length < 5864062014805 then (spec_AllComplete.l0 k3 (y515 ++ y518) (wrap64 (x4_1 + 1)) a0_0 l0_1) else (none))) = some r := hy_ hy515 H
       have Ny515 := Aside0.mk hy515
       clear hy515
       have c42b0 := eq_true (of_decide_eq_true as_ : 0 ≤ x7_3)
       have c43b0 := eq_true (of_decide_eq_true as_ : x7_3 ≤ (x3_1.length : Int))
       obtain ⟨y518, hy518⟩ : ∃ y_ : List (List Int), y_ = (x3_1.drop (x7_3 : Int).toNat) := ⟨_, rfl⟩
       replace H : (if y515.length + y518.length < 5864062014805 then (spec_AllComplete.l0 k3 (y515 ++ y518) (wrap64 (x4_1 + 1)) a0_0 l0_1) else (none)) = some r := hy_ hy518 H
       have Ny518 := Aside0.mk hy518
       clear hy518
       by_cases c44 : y515.length + y518.length < 5864062014805
       rotate_left
       ·rw [if_neg c44] at H
        exact absurd H (by simp)
       rw [if_pos c44] at H
       have LMc44 := Aside0.mk c44
       clear c44
       obtain ⟨y523, hy523⟩ : ∃ y_ : List (List Int), y_ = (y515 ++ y518) := ⟨_, rfl⟩
       replace H : (spec_AllComplete.l0 k3 y523 (wrap64 (x4_1 + 1)) a0_0 l0_1) = some r := hy_ hy523 H
       have Ny523 := Aside0.mk hy523
       clear hy523
       have H' := Aside0.mk H
       clear H
       have p499 : 0 ≤ ((ji33) : Int) := of_decide_eq_true as_
       have q499 : (ji33) < (x3_1.length : Int) := of_decide_eq_true as_
       obtain ⟨ad499, A499_0, c499_0, e499, hx499_0, hl499_0, hi499_0⟩ := at_L2 (Zn HO_3.out).2.2 (ji33) p499 q499
       cases e499
       obtain ⟨ce499, hce499, hMe499, hcc499⟩ := Kd.N_get HO_3.out [] (ji33) p499 (by first | exact q499 | exact of_decide_eq_true as_ | (have e_ := (Zn HO_3.out).1; omega))
       obtain ⟨ua499_0, uc499_0, rfl, ul499_0, ge499_0⟩ := Kd.FK_slice_open hMe499
       have hv499_0 := hcc499 0 _ rfl
       rw [Nat.add_zero, show ((Kd.slice 3 (Kd.int .i64))).sz = 1 from rfl, Nat.mul_one] at hv499_0
       replace hv499_0 := Option.some.inj (hv499_0.symm.trans hx499_0)
       injection hv499_0 with hva_ hvn_ hvc_
       rw [hva_] at ge499_0
       rw [hvc_] at ul499_0
       have HL499_0 := Aside0.mk (show Kd.V (Kd.int .i64) 3 _ w.heap.size _ _ (rd_L2 x3_1 (ji33)) from Kd.V_mk ul499_0 ge499_0)
       clear hva_ hvn_ hvc_ ge499_0 ul499_0
       clear hcc499 hce499
       have HR499_0 := Aside0.mk hi499_0
       have HC499_0 := Aside0.mk hl499_0
       clear hi499_0 hl499_0
       replace p499 := eq_true p499
       replace q499 := eq_true q499
       try go_wp2_with (first | (go_at_call 69; (with_reducible refine (spec_l7Before.calls k3 _ _ x5_2 _ _ (rd_L2 x3_1 (ji33)) false _ ?side1 ?side2 ?side3 ?side4 A36.out).mono ?_); (case side1 => exact sA_ (ZE HO_5.out).2.2); (case side2 => exact (ZE HO_5.out).2.1); (case side3 => exact sA_ (cf_ HR499_0.out)); (case side4 => exact HC499_0.out); rintro e w' ⟨rfl, ⟨nd, rfl⟩⟩))
       (try (rw [drewN_self wr]; generalize hq_ : World.drewN wr _ = wr; have n0_ : Aside0 (Kd.V (Kd.int .i64) 3 wr w.heap.size (fun k_ => (w.heap.size ≤ k_) ∧ some k_ ≠ (.slice (some ad499) x3_1.length co31 : Value).ownBlock ∧ some k_ ≠ (.slice Ao29 x5_2.length co29 : Value).ownBlock ∧ k_ ≠ gb484) (.slice A499_0 (rd_L2 x3_1 (ji33)).length c499_0) (rd_L2 x3_1 (ji33))) := ⟨by rw [← hq_]; exact (by (with_reducible repeat (first | apply ZQ | apply ZO | apply ZS)); exact ZR HL499_0.out (fun _ hk => ⟨hk.1.1, ⟨hk.2, ⟨hk.1.2.1, hk.1.2.2⟩⟩⟩))⟩; have n1_ : Aside0 (Kd.N (Kd.slice 3 (Kd.int .i64)) 31 wr w.heap.size (fun k_ => (w.heap.size ≤ k_) ∧ some k_ ≠ (.slice Ao29 x5_2.length co29 : Value).ownBlock ∧ k_ ≠ gb484) (.slice (some ad499) x3_1.length co31) x3_1) := ⟨by rw [← hq_]; exact (rN_ HO_3.out)⟩; have n2_ : Aside0 (Kd.R (Kd.int .i64) 3 wr w.heap.size (fun k_ => (w.heap.size ≤ k_)) (.slice Ao29 x5_2.length co29) x5_2) := ⟨by rw [← hq_]; exact (rR_ HO_5.out)⟩; have n3_ : Aside0 (wr.heap[gb484]? = some (.cells #[.int .i64 a0_0, .slice A0_1 l0_1.length c0_1] 27 (0, 0))) := ⟨by rw [← hq_]; exact (bk_ BK484.out)⟩; have n4_ : Aside0 (Below w.heap.size w wr) := ⟨by rw [← hq_]; exact hB_⟩; have n5_ : Aside0 (Kd.C (Kd.int .i64) wr A499_0 (rd_L2 x3_1 (ji33)).length (rd_L2 x3_1 (ji33))) := ⟨by rw [← hq_]; exact (cf_ HR499_0.out)⟩; clear HL499_0 HO_3 HO_5 BK484 HB HR499_0 hq_; have HL499_0 := n0_; have HO_3 := n1_; have HO_5 := n2_; have BK484 := n3_; have HB := n4_; have HR499_0 := n5_; clear n0_ n1_ n2_ n3_ n4_ n5_))
       (try (have hcugb484_0 : wr.cell? ⟨gb484, 0, none⟩ = some (.int .i64 a0_0) := (Za BK484.out 0).trans rfl))
       (try (have hfugb484_0 := Zb BK484.out 0))
       (try (have hcugb484_1 : wr.cell? ⟨gb484, 1, none⟩ = some (.slice A0_1 l0_1.length c0_1) := (Za BK484.out 1).trans rfl))
       (try (have hfugb484_1 := Zb BK484.out 1))
       replace HO_3 := Aside0.mk (Zv HO_3.out)
       replace HO_5 := Aside0.mk (Kd.R_drew HO_5.out)
       replace HL499_0 := Aside0.mk (ZS HL499_0.out)
       replace BK484 := Aside0.mk (Zj BK484.out)
       replace HR499_0 := Aside0.mk (Zu HR499_0.out)
       replace HB := Aside0.mk (Zq HB.out)
       have q46 : (x7_3 : Int) ≤ ((x3_1.length : Int) : Int) := of_decide_eq_true as_
       obtain ⟨i046, hi046, _, hsz46, _⟩ := info_parts info31
       have hroom46 : x3_1.length ≤ co31 := (Zn HO_3.out).2.1
       have hC46 : Kd.F (Kd.slice 3 (Kd.int .i64)) _ _ (some ad499) x3_1.length x3_1 := (Kd.V_at (base := w.heap.size) (Kd.N_V HO_3.out)).2.2
       have hcut46 := cut_to (P := Try.prog) 22 31 .i64 Try.underlying22 hi046 (some ad499) x3_1.length co31 x7_3 (of_decide_eq_true as_) q46 hroom46
       have hr46 := Kd.F_take (m := (x7_3 : Int).toNat) hC46 (by omega)
       have hy46 : y504.length = (x7_3 : Int).toNat := (by first | (rw [Ny504.out, List.length_take]; omega) | (rw [Ny504.out, List.length_take, Ny523.out, List.length_set]; omega) | (rw [Ny504.out, List.length_take, Ny518.out, List.length_set]; omega) | (rw [Ny504.out, List.length_take, Ny515.out, List.length_set]; omega) | (rw [Ny504.out, List.length_take, Ny512.out, List.length_set]; omega) | (rw [Ny504.out, List.length_take, Ny509.out, List.length_set]; omega) | (rw [Ny504.out, List.length_take, Ny501.out, List.length_set]; omega) | (rw [Ny504.out, List.length_take, Ny495.out, List.length_set]; omega))
       rw [← Ny504.out] at hr46
       rw [← hy46] at hcut46
       have HO508 := Aside0.mk (show Kd.V (Kd.slice 3 (Kd.int .i64)) 31 _ w.heap.size _ (.slice (some ad499) y504.length co31) y504 from Kd.V_mk (by omega) hr46)
       have HC508 := Aside0.mk (show y504.length ≤ co31 from by omega)
       clear hr46 hC46 hroom46 hi046 hsz46
       have KY46 := Aside0.mk hy46
       clear hy46
       replace q46 := eq_true q46
       have q47 : (x7_3 : Int) ≤ ((x3_1.length : Int) : Int) := of_decide_eq_true as_
       obtain ⟨i047, hi047, _, hsz47, _⟩ := info_parts info31
       have hroom47 : x3_1.length ≤ co31 := (Zn HO_3.out).2.1
       have hC47 : Kd.F (Kd.slice 3 (Kd.int .i64)) _ _ (some ad499) x3_1.length x3_1 := (Kd.V_at (base := w.heap.size) (Kd.N_V HO_3.out)).2.2
       have q047 : (0 : Int) ≤ (x7_3 : Int) := of_decide_eq_true as_
       have hcut47 := cut_from (P := Try.prog) 22 31 .i64 Try.underlying22 hi047 1 hsz47 (some ad499) x3_1.length co31 x7_3 q047 q47
       have hr47 := Kd.F_cut (m := (x7_3 : Int).toNat) (c := co31) hC47 (by omega) hroom47
       obtain ⟨A47, hA47⟩ : ∃ A1, A1 = (if co31 = (x7_3 : Int).toNat then (some ad499) else ((some ad499) : Option Addr).map (·.add ((x7_3 : Int).toNat * 1))) := ⟨_, rfl⟩
       obtain ⟨c47, hc47⟩ : ∃ c1, c1 = co31 - (x7_3 : Int).toNat := ⟨_, rfl⟩
       have hy47 : y518.length = x3_1.length - (x7_3 : Int).toNat := (by rw [Ny518.out, List.length_drop] <;> omega)
       rw [show (x3_1).drop (x7_3 : Int).toNat = y518 from Ny518.out.symm] at hr47
       replace hr47 : Kd.F (Kd.slice 3 (Kd.int .i64)) _ _ A47 y518.length y518 := (by rw [hA47]; exact hr47)
       rw [← hy47, ← hA47, ← hc47] at hcut47
       have HO522 := Aside0.mk (show Kd.V (Kd.slice 3 (Kd.int .i64)) 31 _ w.heap.size _ (.slice A47 y518.length c47) y518 from Kd.V_mk (by rw [hy47, hc47]; exact Nat.sub_le_sub_right hroom47 _) hr47)
       have HC522 := Aside0.mk (show y518.length ≤ c47 from by rw [hy47, hc47]; exact Nat.sub_le_sub_right hroom47 _)
       clear hr47 hC47 hroom47 hi047 hsz47 hc47
       have KY47 := Aside0.mk hy47
       have KA47 := Aside0.mk hA47
       clear hy47 hA47
       replace q47 := eq_true q47
       refine start_ (n := 13) (S := fun w' => True) (ds := []) (m_ 13 0) (by kernel_rfl) rfl rfl trivial (fun hHeld => ?_); refine with_tabW spec_AllComplete.tab17 spec_AllComplete.bits17 (fun HT_ HW_ => ?_)
       generalize wr.drew = w45 at HO_3 HO_5 HL499_0 BK484 HR499_0 HB HO508 HO522 hHeld ⊢
       refine pu_ 1 55 (m_ 13 2) ?_
       refine pu_ 2 56 (m_ 13 6) ?_
       refine pu_ 3 57 (m_ 13 14) ?_
       refine pu_ 5 59 (m_ 13 46) ?_
       refine pu_ 8 62 (m_ 13 302) ?_
       refine pu_ 9 63 (m_ 13 814) ?_
       refine pu_ 10 64 (m_ 13 1838) ?_
       refine join_ (σ := Value × Value × Value) 3 (m_ 13 1919) (fun s_ => [(54, s_.1), (58, s_.2.1), (60, s_.2.2)]) (fun s_ w' => (Kd.V (Kd.int .i64) 3 w' w.heap.size (fun k_ => (w.heap.size ≤ k_) ∧ some k_ ≠ (s_.2.1 : Value).ownBlock ∧ some k_ ≠ (s_.2.2 : Value).ownBlock ∧ some k_ ≠ (.slice (some ad499) x3_1.length co31 : Value).ownBlock ∧ k_ ≠ gb484) (.slice A499_0 (rd_L2 x3_1 (ji33)).length c499_0) (rd_L2 x3_1 (ji33))) ∧ (Kd.V (Kd.slice 3 (Kd.int .i64)) 31 w' w.heap.size (fun k_ => (w.heap.size ≤ k_) ∧ some k_ ≠ (s_.2.1 : Value).ownBlock ∧ some k_ ≠ (s_.2.2 : Value).ownBlock ∧ k_ ≠ gb484) (.slice (some ad499) y504.length co31) y504) ∧ (Kd.N (Kd.slice 3 (Kd.int .i64)) 31 w' w.heap.size (fun k_ => (w.heap.size ≤ k_) ∧ some k_ ≠ (s_.2.2 : Value).ownBlock ∧ k_ ≠ gb484) s_.2.1 y509) ∧ (Kd.N (Kd.slice 3 (Kd.int .i64)) 31 w' w.heap.size (fun k_ => (w.heap.size ≤ k_) ∧ some k_ ≠ (s_.2.1 : Value).ownBlock ∧ some k_ ≠ (.slice (some ad499) x3_1.length co31 : Value).ownBlock ∧ k_ ≠ gb484) s_.2.2 y512) ∧ (Kd.V (Kd.slice 3 (Kd.int .i64)) 31 w' w.heap.size (fun k_ => (w.heap.size ≤ k_) ∧ some k_ ≠ (s_.2.1 : Value).ownBlock ∧ some k_ ≠ (s_.2.2 : Value).ownBlock ∧ k_ ≠ gb484) (.slice A47 y518.length c47) y518) ∧ (Kd.N (Kd.slice 3 (Kd.int .i64)) 31 w' w.heap.size (fun k_ => (w.heap.size ≤ k_) ∧ some k_ ≠ (s_.2.1 : Value).ownBlock ∧ some k_ ≠ (s_.2.2 : Value).ownBlock ∧ k_ ≠ gb484) (.slice (some ad499) x3_1.length co31) x3_1) ∧ (w'.heap[gb484]? = some (.cells #[.int .i64 a0_0, .slice A0_1 l0_1.length c0_1] 27 (0, 0))) ∧ (Below w.heap.size w w')) ?_ ?_
       rotate_left
       ·intro hCont
        refine two_ (i := 0) (j := 6) (Ni := some 54) (Nj := some 60) (m_ 13 1839) (m_ 13 1902) rfl rfl rfl rfl (two_of HT_.out (by kernel_rfl)) (by decide) (by decide) (fun K hK => ?_) (fun K hK => ?_)
        rotate_left
        ·skip
         refine Kd.N_lit_step (Kd.slice 3 (Kd.int .i64)) _ 31 ?hg (N' := 60) ?hd (xs := ([x5_2] : List (List Int))) (inner := [.slice Ao29 x5_2.length co29]) (ok := (fun k_ => (w.heap.size ≤ k_) ∧ some k_ ≠ (.slice (some ad499) x3_1.length co31 : Value).ownBlock ∧ k_ ≠ gb484)) (okp := (fun k_ => (w.heap.size ≤ k_) ∧ some k_ ≠ (.slice (some ad499) x3_1.length co31 : Value).ownBlock ∧ k_ ≠ gb484)) ?hr ?hp (fun _ hk => hk) ((show ∀ k_, w45.heap.size ≤ k_ → (fun k_ => (w.heap.size ≤ k_) ∧ some k_ ≠ (.slice (some ad499) x3_1.length co31 : Value).ownBlock ∧ k_ ≠ gb484) k_ from fun k_ hk => ⟨(Nat.le_trans (Ze hB_) hk), ZM (Kd.N_lt (rN_ HO_3.out)) k_ hk, Kd.freshB (bq_ BK484.out) k_ hk⟩) _ (Nat.le_refl _)) (Below.refl _ _) (Nat.le_refl _) (by simp) ?_; (case hd => rfl); (case hg => rfl); (case hr => first | (go_simp; done) | (go_simp; rfl)); (case hp => exact (Reps.one (show Kd.FK (Kd.slice 3 (Kd.int .i64)) _ _ x5_2 [.slice Ao29 x5_2.length co29] from (Kd.FK_slice_mk (ZE (ZK (ok' := (fun k_ => (w.heap.size ≤ k_) ∧ some k_ ≠ (.slice (some ad499) x3_1.length co31 : Value).ownBlock ∧ k_ ≠ gb484)) (Kd.R_types (ZN (HO_5.out) (Kd.N_typed HO_3.out) (by decide)) BK484.out (by decide)) (fun k_ hk => ⟨hk.1.1, ⟨hk.1.2, hk.2⟩⟩))).2.1 (Kd.R_F (ZK (ok' := (fun k_ => (w.heap.size ≤ k_) ∧ some k_ ≠ (.slice (some ad499) x3_1.length co31 : Value).ownBlock ∧ k_ ≠ gb484)) (Kd.R_types (ZN (HO_5.out) (Kd.N_typed HO_3.out) (by decide)) BK484.out (by decide)) (fun k_ hk => ⟨hk.1.1, ⟨hk.1.2, hk.2⟩⟩))))) (Reps.none _ _)))
         intro v513 w48 ho49 hb hg_ hnew_
         clear hg_ hnew_
         (first | rw [← Ny512.out] at ho49 | (simp only [Int.reduceToNat] at ho49; rw [← Ny512.out] at ho49))
         have n0_ := Aside0.mk (Kd.N_elder' (rN_ HO_3.out) (Kd.N_base ho49) hb)
         have n1_ := Aside0.mk (Kd.V_elder' (by (with_reducible repeat (first | apply ZQ | apply ZO | apply ZS)); exact HL499_0.out) (Kd.N_base ho49) hb)
         have n2_ := Aside0.mk (Kd.V_elder' (rV_ HO508.out) (Kd.N_base ho49) hb)
         have n3_ := Aside0.mk (Kd.V_elder' (rV_ HO522.out) (Kd.N_base ho49) hb)
         have n4_ := Aside0.mk (Kd.N_lower ho49 (Ze hB_))
         have n5_ := Aside0.mk (Zd (bq_ BK484.out) hb)
         have n6_ := Aside0.mk (Kd.C_below (cf_ HR499_0.out) hb)
         have n7_ := Aside0.mk (Zc hB_ hb)
         clear HO_3
         clear HL499_0
         clear HO508
         clear HO522
         clear BK484
         clear HR499_0
         clear HB
         clear HO_5
         have HO_3 := n0_
         have HL499_0 := n1_
         have HO508 := n2_
         have HO522 := n3_
         have HO514 := n4_
         have BK484 := n5_
         have HR499_0 := n6_
         have HB := n7_
         clear n0_ n1_ n2_ n3_ n4_ n5_ n6_ n7_
         clear hb ho49
         refine hK.out _ _ trivial (fun hHeld => ?_)
         clear hK K
         refine no_ 60 ?_
         refine on_ 0 54 (m_ 13 1903) (fun K hK => ?_)
         refine Kd.N_lit_step (Kd.slice 3 (Kd.int .i64)) _ 31 ?hg (N' := 54) ?hd (xs := ([] : List (List Int))) (inner := []) (ok := (fun k_ => (w.heap.size ≤ k_) ∧ some k_ ≠ (.slice (some ad499) x3_1.length co31 : Value).ownBlock ∧ some k_ ≠ (v513 : Value).ownBlock ∧ k_ ≠ gb484)) (okp := (fun k_ => (w.heap.size ≤ k_) ∧ some k_ ≠ (.slice (some ad499) x3_1.length co31 : Value).ownBlock ∧ some k_ ≠ (v513 : Value).ownBlock ∧ k_ ≠ gb484)) ?hr ?hp (fun _ hk => hk) ((show ∀ k_, w48.heap.size ≤ k_ → (fun k_ => (w.heap.size ≤ k_) ∧ some k_ ≠ (.slice (some ad499) x3_1.length co31 : Value).ownBlock ∧ some k_ ≠ (v513 : Value).ownBlock ∧ k_ ≠ gb484) k_ from fun k_ hk => ⟨(Nat.le_trans (Ze hB_) hk), ZM (Kd.N_lt (rN_ HO_3.out)) k_ hk, ZM (Kd.N_lt (rN_ HO514.out)) k_ hk, Kd.freshB (bq_ BK484.out) k_ hk⟩) _ (Nat.le_refl _)) (Below.refl _ _) (Nat.le_refl _) (by simp) ?_; (case hd => rfl); (case hg => rfl); (case hr => first | (go_simp; done) | (go_simp; rfl)); (case hp => exact (Reps.none _ _))
         intro v502 w50 ho51 hb hg_ hnew_
         clear hg_ hnew_
         (first | rw [← Ny501.out] at ho51 | (simp only [Int.reduceToNat] at ho51; rw [← Ny501.out] at ho51))
         have n0_ := Aside0.mk (Kd.N_elder' (rN_ HO_3.out) (Kd.N_base ho51) hb)
         have n1_ := Aside0.mk (Kd.V_elder' (by (with_reducible repeat (first | apply ZQ | apply ZO | apply ZS)); exact HL499_0.out) (Kd.N_base ho51) hb)
         have n2_ := Aside0.mk (Kd.V_elder' (rV_ HO508.out) (Kd.N_base ho51) hb)
         have n3_ := Aside0.mk (Kd.V_elder' (rV_ HO522.out) (Kd.N_base ho51) hb)
         have n4_ := Aside0.mk (Kd.N_elder' (rN_ HO514.out) (Kd.N_base ho51) hb)
         have n5_ := Aside0.mk (Kd.N_lower ho51 (Ze hB_))
         have n6_ := Aside0.mk (Zd (bq_ BK484.out) hb)
         have n7_ := Aside0.mk (Kd.C_below (cf_ HR499_0.out) hb)
         have n8_ := Aside0.mk (Zc hB_ hb)
         clear HO_3
         clear HL499_0
         clear HO508
         clear HO522
         clear HO514
         clear BK484
         clear HR499_0
         clear HB
         have HO_3 := n0_
         have HL499_0 := n1_
         have HO508 := n2_
         have HO522 := n3_
         have HO514 := n4_
         have HO503 := n5_
         have BK484 := n6_
         have HR499_0 := n7_
         have HB := n8_
         clear n0_ n1_ n2_ n3_ n4_ n5_ n6_ n7_ n8_
         clear hb ho51
         refine hK.out _ _ trivial (fun hHeld => ?_)
         clear hK K
         refine no_ 54 ?_
         refine on_ 4 58 (m_ 13 1919) (fun K hK => ?_)
         refine Kd.N_append_rows_step (Kd.slice 3 (Kd.int .i64)) (w0 := w) w.heap.size (by rfl) (.tmp 54) (.tmp 57) 22 31 (.slice none 0 0) 24 rfl Try.underlying22 info31 rfl (by decide) (by omega) v502 y501 y504 _ _ _ (fun k_ => (w.heap.size ≤ k_) ∧ some k_ ≠ (v513 : Value).ownBlock ∧ k_ ≠ gb484) (fun k_ => ((fun k_ => (w.heap.size ≤ k_) ∧ some k_ ≠ (v513 : Value).ownBlock ∧ k_ ≠ gb484)) k_ ∧ some k_ ≠ (v502 : Value).ownBlock) rfl rfl ?aO ?aR (fun _ hk => hk) ?aF ?aB ?aS ?aL ?_
         (case aR => exact (by skip; exact Kd.V_F (ZR (ok' := (fun k_ => ((fun k_ => (w.heap.size ≤ k_) ∧ some k_ ≠ (v513 : Value).ownBlock ∧ k_ ≠ gb484)) k_ ∧ some k_ ≠ (v502 : Value).ownBlock)) (HO508.out) (fun k_ hk => ⟨⟨hk.1.1.1, ⟨hk.1.2, hk.1.1.2.2⟩⟩, hk.2⟩))))
         (case aB => exact hB_)
         (case aF => exact (fun k_ hk => ⟨(Nat.le_trans (Ze hB_) hk), ZM (Kd.N_lt (rN_ HO514.out)) k_ hk, Kd.freshB (bq_ BK484.out) k_ hk⟩))
         (case aO => exact (by (with_reducible repeat (first | apply ZG | apply ZF | apply Zv)); exact ZB HO503.out (fun _ hk => ⟨hk.1, ⟨hk.2.2.1, hk.2.2.2⟩⟩)))
         (case aS => exact (Ze hB_))
         (case aL => have := LMc40.out; omega)
         intro v510 w52 ho hb hg hat
         rw [← Ny509.out] at ho
         have n0_ := Aside0.mk (Kd.N_afterv (ok := (fun k_ => (w.heap.size ≤ k_) ∧ some k_ ≠ (v513 : Value).ownBlock ∧ k_ ≠ gb484)) (by (with_reducible repeat (first | apply ZG | apply ZF | apply Zv)); exact ZB HO_3.out (fun _ hk => ⟨⟨hk.1.1.1, ⟨hk.1.2, hk.1.1.2.2⟩⟩, hk.2⟩)) hg hat)
         have n1_ := Aside0.mk (ZJ (bq_ BK484.out) hg (Kd.N_ne HO503.out BK484.out (by decide)))
         have n2_ := Aside0.mk (Kd.V_afterv (ok := (fun k_ => (w.heap.size ≤ k_) ∧ some k_ ≠ (.slice (some ad499) x3_1.length co31 : Value).ownBlock ∧ some k_ ≠ (v513 : Value).ownBlock ∧ k_ ≠ gb484)) (by (with_reducible repeat (first | apply ZQ | apply ZO | apply ZS)); exact ZR HL499_0.out (fun _ hk => by ((repeat' apply And.intro) <;> (first | exact hk.1 | exact hk.2 | exact hk.1.1 | exact hk.1.2 | exact hk.2.1 | exact hk.2.2 | exact hk.1.1.1 | exact hk.1.1.2 | exact hk.1.2.1 | exact hk.1.2.2 | exact hk.2.1.1 | exact hk.2.1.2 | exact hk.2.2.1 | exact hk.2.2.2 | exact hk.1.1.1.1 | exact hk.1.1.1.2 | exact hk.1.1.2.1 | exact hk.1.1.2.2 | exact hk.1.2.1.1 | exact hk.1.2.1.2 | exact hk.1.2.2.1 | exact hk.1.2.2.2 | exact hk.2.1.1.1 | exact hk.2.1.1.2 | exact hk.2.1.2.1 | exact hk.2.1.2.2 | exact hk.2.2.1.1 | exact hk.2.2.1.2 | exact hk.2.2.2.1 | exact hk.2.2.2.2 | exact hk.1.1.1.1.1 | exact hk.1.1.1.1.2 | exact hk.1.1.1.2.1 | exact hk.1.1.1.2.2 | exact hk.1.1.2.1.1 | exact hk.1.1.2.1.2 | exact hk.1.1.2.2.1 | exact hk.1.1.2.2.2 | exact hk.1.2.1.1.1 | exact hk.1.2.1.1.2 | exact hk.1.2.1.2.1 | exact hk.1.2.1.2.2 | exact hk.1.2.2.1.1 | exact hk.1.2.2.1.2 | exact hk.1.2.2.2.1 | exact hk.1.2.2.2.2 | exact hk.2.1.1.1.1 | exact hk.2.1.1.1.2 | exact hk.2.1.1.2.1 | exact hk.2.1.1.2.2 | exact hk.2.1.2.1.1 | exact hk.2.1.2.1.2 | exact hk.2.1.2.2.1 | exact hk.2.1.2.2.2 | exact hk.2.2.1.1.1 | exact hk.2.2.1.1.2 | exact hk.2.2.1.2.1 | exact hk.2.2.1.2.2 | exact hk.2.2.2.1.1 | exact hk.2.2.2.1.2 | exact hk.2.2.2.2.1 | exact hk.2.2.2.2.2)))) hg hat)
         have n3_ := Aside0.mk (Kd.V_afterv (ok := (fun k_ => (w.heap.size ≤ k_) ∧ some k_ ≠ (v513 : Value).ownBlock ∧ k_ ≠ gb484)) (by (with_reducible repeat (first | apply ZQ | apply ZO | apply ZS)); exact ZR HO508.out (fun _ hk => ⟨⟨hk.1.1.1, ⟨hk.1.2, hk.1.1.2.2⟩⟩, hk.2⟩)) hg hat)
         have n4_ := Aside0.mk (Kd.V_afterv (ok := (fun k_ => (w.heap.size ≤ k_) ∧ some k_ ≠ (v513 : Value).ownBlock ∧ k_ ≠ gb484)) (by (with_reducible repeat (first | apply ZQ | apply ZO | apply ZS)); exact ZR HO522.out (fun _ hk => ⟨⟨hk.1.1.1, ⟨hk.1.2, hk.1.1.2.2⟩⟩, hk.2⟩)) hg hat)
         have n5_ := Aside0.mk (Kd.N_afterv (ok := (fun k_ => (w.heap.size ≤ k_) ∧ some k_ ≠ (.slice (some ad499) x3_1.length co31 : Value).ownBlock ∧ k_ ≠ gb484)) (rN_ HO514.out) hg hat)
         have n6_ := Aside0.mk (hb)
         have n7_ := Aside0.mk (ho)
         clear HO_3
         clear BK484
         clear HL499_0
         clear HO508
         clear HO522
         clear HO514
         clear HB
         clear HO503
         have HO_3 := n0_
         have BK484 := n1_
         have HL499_0 := n2_
         have HO508 := n3_
         have HO522 := n4_
         have HO514 := n5_
         have HB := n6_
         have HO511 := n7_
         clear n0_ n1_ n2_ n3_ n4_ n5_ n6_ n7_
         clear ho hb hg hat
         refine hK.out _ _ trivial (fun hHeld => ?_)
         clear hK K
         refine no_ 58 ?_
         exact norm_ (by simp only [putAll, Act.put, List.setIfInBounds_toArray, List.set_cons_zero, List.set_cons_succ]) (hCont (v502, v510, v513) _ ⟨(by (with_reducible repeat (first | apply ZQ | apply ZO | apply ZS)); exact ZR HL499_0.out (fun _ hk => ⟨hk.1.1, ⟨hk.2, ⟨hk.1.2.2.1, ⟨hk.1.2.1, hk.1.2.2.2⟩⟩⟩⟩)), (by (with_reducible repeat (first | apply ZQ | apply ZO | apply ZS)); exact ZR HO508.out (fun _ hk => ⟨hk.1.1, ⟨hk.2, ⟨hk.1.2.1, hk.1.2.2⟩⟩⟩)), (rN_ HO511.out), (by (with_reducible repeat (first | apply ZG | apply ZF | apply Zv)); exact ZB HO514.out (fun _ hk => ⟨hk.1.1, ⟨hk.2, ⟨hk.1.2.1, hk.1.2.2⟩⟩⟩)), (by (with_reducible repeat (first | apply ZQ | apply ZO | apply ZS)); exact ZR HO522.out (fun _ hk => ⟨hk.1.1, ⟨hk.2, ⟨hk.1.2.1, hk.1.2.2⟩⟩⟩)), (by (with_reducible repeat (first | apply ZG | apply ZF | apply Zv)); exact ZB HO_3.out (fun _ hk => ⟨hk.1.1, ⟨hk.2, ⟨hk.1.2.1, hk.1.2.2⟩⟩⟩)), (bk_ BK484.out), hB_⟩)
        skip
        refine Kd.N_lit_step (Kd.slice 3 (Kd.int .i64)) _ 31 ?hg (N' := 54) ?hd (xs := ([] : List (List Int))) (inner := []) (ok := (fun k_ => (w.heap.size ≤ k_) ∧ some k_ ≠ (.slice (some ad499) x3_1.length co31 : Value).ownBlock ∧ some k_ ≠ (.slice Ao29 x5_2.length co29 : Value).ownBlock ∧ k_ ≠ gb484)) (okp := (fun k_ => (w.heap.size ≤ k_) ∧ some k_ ≠ (.slice (some ad499) x3_1.length co31 : Value).ownBlock ∧ some k_ ≠ (.slice Ao29 x5_2.length co29 : Value).ownBlock ∧ k_ ≠ gb484)) ?hr ?hp (fun _ hk => hk) ((show ∀ k_, w45.heap.size ≤ k_ → (fun k_ => (w.heap.size ≤ k_) ∧ some k_ ≠ (.slice (some ad499) x3_1.length co31 : Value).ownBlock ∧ some k_ ≠ (.slice Ao29 x5_2.length co29 : Value).ownBlock ∧ k_ ≠ gb484) k_ from fun k_ hk => ⟨(Nat.le_trans (Ze hB_) hk), ZM (Kd.N_lt (rN_ HO_3.out)) k_ hk, ZM (Kd.R_lt (rR_ HO_5.out)) k_ hk, Kd.freshB (bq_ BK484.out) k_ hk⟩) _ (Nat.le_refl _)) (Below.refl _ _) (Nat.le_refl _) (by simp) ?_; (case hd => rfl); (case hg => rfl); (case hr => first | (go_simp; done) | (go_simp; rfl)); (case hp => exact (Reps.none _ _))
        intro v502 w48 ho49 hb hg_ hnew_
        clear hg_ hnew_
        (first | rw [← Ny501.out] at ho49 | (simp only [Int.reduceToNat] at ho49; rw [← Ny501.out] at ho49))
        have n0_ := Aside0.mk (Kd.N_elder' (rN_ HO_3.out) (Kd.N_base ho49) hb)
        have n1_ := Aside0.mk (Kd.R_below (rR_ HO_5.out) hb)
        have n2_ := Aside0.mk (Kd.V_elder' (by (with_reducible repeat (first | apply ZQ | apply ZO | apply ZS)); exact HL499_0.out) (Kd.N_base ho49) hb)
        have n3_ := Aside0.mk (Kd.V_elder' (rV_ HO508.out) (Kd.N_base ho49) hb)
        have n4_ := Aside0.mk (Kd.V_elder' (rV_ HO522.out) (Kd.N_base ho49) hb)
        have n5_ := Aside0.mk (Kd.N_lower ho49 (Ze hB_))
        have n6_ := Aside0.mk (Zd (bq_ BK484.out) hb)
        have n7_ := Aside0.mk (Kd.C_below (cf_ HR499_0.out) hb)
        have n8_ := Aside0.mk (Zc hB_ hb)
        clear HO_3
        clear HO_5
        clear HL499_0
        clear HO508
        clear HO522
        clear BK484
        clear HR499_0
        clear HB
        have HO_3 := n0_
        have HO_5 := n1_
        have HL499_0 := n2_
        have HO508 := n3_
        have HO522 := n4_
        have HO503 := n5_
        have BK484 := n6_
        have HR499_0 := n7_
        have HB := n8_
        clear n0_ n1_ n2_ n3_ n4_ n5_ n6_ n7_ n8_
        clear hb ho49
        refine hK.out _ _ trivial (fun hHeld => ?_)
        clear hK K
        refine no_ 54 ?_
        refine two_ (i := 4) (j := 6) (Ni := some 58) (Nj := some 60) (m_ 13 1855) (m_ 13 1903) rfl rfl rfl rfl (two_of HT_.out (by kernel_rfl)) (by decide) (by decide) (fun K hK => ?_) (fun K hK => ?_)
        ·skip
         refine Kd.N_append_rows_step (Kd.slice 3 (Kd.int .i64)) (w0 := w) w.heap.size (by rfl) (.tmp 54) (.tmp 57) 22 31 (.slice none 0 0) 24 rfl Try.underlying22 info31 rfl (by decide) (by omega) v502 y501 y504 _ _ _ (fun k_ => (w.heap.size ≤ k_) ∧ some k_ ≠ (.slice Ao29 x5_2.length co29 : Value).ownBlock ∧ k_ ≠ gb484) (fun k_ => ((fun k_ => (w.heap.size ≤ k_) ∧ some k_ ≠ (.slice Ao29 x5_2.length co29 : Value).ownBlock ∧ k_ ≠ gb484)) k_ ∧ some k_ ≠ (v502 : Value).ownBlock) rfl rfl ?aO ?aR (fun _ hk => hk) ?aF ?aB ?aS ?aL ?_
         (case aR => exact (by skip; exact Kd.V_F (ZR (ok' := (fun k_ => ((fun k_ => (w.heap.size ≤ k_) ∧ some k_ ≠ (.slice Ao29 x5_2.length co29 : Value).ownBlock ∧ k_ ≠ gb484)) k_ ∧ some k_ ≠ (v502 : Value).ownBlock)) (HO508.out) (fun k_ hk => ⟨⟨hk.1.1, ⟨hk.1.2.1, hk.1.2.2⟩⟩, hk.2⟩))))
         (case aB => exact hB_)
         (case aF => exact (fun k_ hk => ⟨(Nat.le_trans (Ze hB_) hk), ZM (Kd.R_lt (rR_ HO_5.out)) k_ hk, Kd.freshB (bq_ BK484.out) k_ hk⟩))
         (case aO => exact (by (with_reducible repeat (first | apply ZG | apply ZF | apply Zv)); exact ZB HO503.out (fun _ hk => ⟨hk.1, ⟨hk.2.2.1, hk.2.2.2⟩⟩)))
         (case aS => exact (Ze hB_))
         (case aL => have := LMc40.out; omega)
         intro v510 w50 ho hb hg hat
         rw [← Ny509.out] at ho
         have n0_ := Aside0.mk (Kd.N_afterv (ok := (fun k_ => (w.heap.size ≤ k_) ∧ some k_ ≠ (.slice Ao29 x5_2.length co29 : Value).ownBlock ∧ k_ ≠ gb484)) (rN_ HO_3.out) hg hat)
         have n1_ := Aside0.mk (Kd.R_over' (rR_ HO_5.out) (Kd.N_typed (rN_ HO503.out)) (by decide) hg)
         have n2_ := Aside0.mk (ZJ (bq_ BK484.out) hg (Kd.N_ne HO503.out BK484.out (by decide)))
         have n3_ := Aside0.mk (Kd.V_afterv (ok := (fun k_ => (w.heap.size ≤ k_) ∧ some k_ ≠ (.slice (some ad499) x3_1.length co31 : Value).ownBlock ∧ some k_ ≠ (.slice Ao29 x5_2.length co29 : Value).ownBlock ∧ k_ ≠ gb484)) (by (with_reducible repeat (first | apply ZQ | apply ZO | apply ZS)); exact ZR HL499_0.out (fun _ hk => by ((repeat' apply And.intro) <;> (first | exact hk.1 | exact hk.2 | exact hk.1.1 | exact hk.1.2 | exact hk.2.1 | exact hk.2.2 | exact hk.1.1.1 | exact hk.1.1.2 | exact hk.1.2.1 | exact hk.1.2.2 | exact hk.2.1.1 | exact hk.2.1.2 | exact hk.2.2.1 | exact hk.2.2.2 | exact hk.1.1.1.1 | exact hk.1.1.1.2 | exact hk.1.1.2.1 | exact hk.1.1.2.2 | exact hk.1.2.1.1 | exact hk.1.2.1.2 | exact hk.1.2.2.1 | exact hk.1.2.2.2 | exact hk.2.1.1.1 | exact hk.2.1.1.2 | exact hk.2.1.2.1 | exact hk.2.1.2.2 | exact hk.2.2.1.1 | exact hk.2.2.1.2 | exact hk.2.2.2.1 | exact hk.2.2.2.2 | exact hk.1.1.1.1.1 | exact hk.1.1.1.1.2 | exact hk.1.1.1.2.1 | exact hk.1.1.1.2.2 | exact hk.1.1.2.1.1 | exact hk.1.1.2.1.2 | exact hk.1.1.2.2.1 | exact hk.1.1.2.2.2 | exact hk.1.2.1.1.1 | exact hk.1.2.1.1.2 | exact hk.1.2.1.2.1 | exact hk.1.2.1.2.2 | exact hk.1.2.2.1.1 | exact hk.1.2.2.1.2 | exact hk.1.2.2.2.1 | exact hk.1.2.2.2.2 | exact hk.2.1.1.1.1 | exact hk.2.1.1.1.2 | exact hk.2.1.1.2.1 | exact hk.2.1.1.2.2 | exact hk.2.1.2.1.1 | exact hk.2.1.2.1.2 | exact hk.2.1.2.2.1 | exact hk.2.1.2.2.2 | exact hk.2.2.1.1.1 | exact hk.2.2.1.1.2 | exact hk.2.2.1.2.1 | exact hk.2.2.1.2.2 | exact hk.2.2.2.1.1 | exact hk.2.2.2.1.2 | exact hk.2.2.2.2.1 | exact hk.2.2.2.2.2)))) hg hat)
         have n4_ := Aside0.mk (Kd.V_afterv (ok := (fun k_ => (w.heap.size ≤ k_) ∧ some k_ ≠ (.slice Ao29 x5_2.length co29 : Value).ownBlock ∧ k_ ≠ gb484)) (rV_ HO508.out) hg hat)
         have n5_ := Aside0.mk (Kd.V_afterv (ok := (fun k_ => (w.heap.size ≤ k_) ∧ some k_ ≠ (.slice Ao29 x5_2.length co29 : Value).ownBlock ∧ k_ ≠ gb484)) (rV_ HO522.out) hg hat)
         have n6_ := Aside0.mk (hb)
         have n7_ := Aside0.mk (ho)
         clear HO_3
         clear HO_5
         clear BK484
         clear HL499_0
         clear HO508
         clear HO522
         clear HB
         clear HO503
         have HO_3 := n0_
         have HO_5 := n1_
         have BK484 := n2_
         have HL499_0 := n3_
         have HO508 := n4_
         have HO522 := n5_
         have HB := n6_
         have HO511 := n7_
         clear n0_ n1_ n2_ n3_ n4_ n5_ n6_ n7_
         clear ho hb hg hat
         refine hK.out _ _ trivial (fun hHeld => ?_)
         clear hK K
         refine no_ 58 ?_
         refine on_ 6 60 (m_ 13 1919) (fun K hK => ?_)
         refine Kd.N_lit_step (Kd.slice 3 (Kd.int .i64)) _ 31 ?hg (N' := 60) ?hd (xs := ([x5_2] : List (List Int))) (inner := [.slice Ao29 x5_2.length co29]) (ok := (fun k_ => (w.heap.size ≤ k_) ∧ some k_ ≠ (.slice (some ad499) x3_1.length co31 : Value).ownBlock ∧ some k_ ≠ (v510 : Value).ownBlock ∧ k_ ≠ gb484)) (okp := (fun k_ => (w.heap.size ≤ k_) ∧ some k_ ≠ (.slice (some ad499) x3_1.length co31 : Value).ownBlock ∧ some k_ ≠ (v510 : Value).ownBlock ∧ k_ ≠ gb484)) ?hr ?hp (fun _ hk => hk) ((show ∀ k_, w50.heap.size ≤ k_ → (fun k_ => (w.heap.size ≤ k_) ∧ some k_ ≠ (.slice (some ad499) x3_1.length co31 : Value).ownBlock ∧ some k_ ≠ (v510 : Value).ownBlock ∧ k_ ≠ gb484) k_ from fun k_ hk => ⟨(Nat.le_trans (Ze hB_) hk), ZM (Kd.N_lt (rN_ HO_3.out)) k_ hk, ZM (Kd.N_lt (rN_ HO511.out)) k_ hk, Kd.freshB (bq_ BK484.out) k_ hk⟩) _ (Nat.le_refl _)) (Below.refl _ _) (Nat.le_refl _) (by simp) ?_; (case hd => rfl); (case hg => rfl); (case hr => first | (go_simp; done) | (go_simp; rfl)); (case hp => exact (Reps.one (show Kd.FK (Kd.slice 3 (Kd.int .i64)) _ _ x5_2 [.slice Ao29 x5_2.length co29] from (Kd.FK_slice_mk (ZE (ZK (ok' := (fun k_ => (w.heap.size ≤ k_) ∧ some k_ ≠ (.slice (some ad499) x3_1.length co31 : Value).ownBlock ∧ some k_ ≠ (v510 : Value).ownBlock ∧ k_ ≠ gb484)) (Kd.R_types (ZN (ZN (HO_5.out) (Kd.N_typed HO_3.out) (by decide)) (Kd.N_typed HO511.out) (by decide)) BK484.out (by decide)) (fun k_ hk => ⟨hk.1.1.1, ⟨hk.1.1.2, ⟨hk.1.2, hk.2⟩⟩⟩))).2.1 (Kd.R_F (ZK (ok' := (fun k_ => (w.heap.size ≤ k_) ∧ some k_ ≠ (.slice (some ad499) x3_1.length co31 : Value).ownBlock ∧ some k_ ≠ (v510 : Value).ownBlock ∧ k_ ≠ gb484)) (Kd.R_types (ZN (ZN (HO_5.out) (Kd.N_typed HO_3.out) (by decide)) (Kd.N_typed HO511.out) (by decide)) BK484.out (by decide)) (fun k_ hk => ⟨hk.1.1.1, ⟨hk.1.1.2, ⟨hk.1.2, hk.2⟩⟩⟩))))) (Reps.none _ _)))
         intro v513 w51 ho52 hb hg_ hnew_
         clear hg_ hnew_
         (first | rw [← Ny512.out] at ho52 | (simp only [Int.reduceToNat] at ho52; rw [← Ny512.out] at ho52))
         have n0_ := Aside0.mk (Kd.N_elder' (rN_ HO_3.out) (Kd.N_base ho52) hb)
         have n1_ := Aside0.mk (Kd.V_elder' (by (with_reducible repeat (first | apply ZQ | apply ZO | apply ZS)); exact HL499_0.out) (Kd.N_base ho52) hb)
         have n2_ := Aside0.mk (Kd.V_elder' (rV_ HO508.out) (Kd.N_base ho52) hb)
         have n3_ := Aside0.mk (Kd.V_elder' (rV_ HO522.out) (Kd.N_base ho52) hb)
         have n4_ := Aside0.mk (Kd.N_elder' (rN_ HO511.out) (Kd.N_base ho52) hb)
         have n5_ := Aside0.mk (Kd.N_lower ho52 (Ze hB_))
         have n6_ := Aside0.mk (Zd (bq_ BK484.out) hb)
         have n7_ := Aside0.mk (Zc hB_ hb)
         clear HO_3
         clear HL499_0
         clear HO508
         clear HO522
         clear HO511
         clear BK484
         clear HB
         clear HO_5
         have HO_3 := n0_
         have HL499_0 := n1_
         have HO508 := n2_
         have HO522 := n3_
         have HO511 := n4_
         have HO514 := n5_
         have BK484 := n6_
         have HB := n7_
         clear n0_ n1_ n2_ n3_ n4_ n5_ n6_ n7_
         clear hb ho52
         refine hK.out _ _ trivial (fun hHeld => ?_)
         clear hK K
         refine no_ 60 ?_
         exact norm_ (by simp only [putAll, Act.put, List.setIfInBounds_toArray, List.set_cons_zero, List.set_cons_succ]) (hCont (v502, v510, v513) _ ⟨(by (with_reducible repeat (first | apply ZQ | apply ZO | apply ZS)); exact ZR HL499_0.out (fun _ hk => ⟨hk.1.1.1, ⟨hk.1.2, ⟨hk.2, ⟨hk.1.1.2.1, hk.1.1.2.2.2⟩⟩⟩⟩)), (by (with_reducible repeat (first | apply ZQ | apply ZO | apply ZS)); exact ZR HO508.out (fun _ hk => ⟨hk.1.1.1, ⟨hk.1.2, ⟨hk.2, hk.1.1.2.2⟩⟩⟩)), (by (with_reducible repeat (first | apply ZG | apply ZF | apply Zv)); exact ZB HO511.out (fun _ hk => ⟨hk.1.1, ⟨hk.2, hk.1.2.2⟩⟩)), (by (with_reducible repeat (first | apply ZG | apply ZF | apply Zv)); exact ZB HO514.out (fun _ hk => ⟨hk.1, ⟨hk.2.2.1, ⟨hk.2.1, hk.2.2.2⟩⟩⟩)), (by (with_reducible repeat (first | apply ZQ | apply ZO | apply ZS)); exact ZR HO522.out (fun _ hk => ⟨hk.1.1.1, ⟨hk.1.2, ⟨hk.2, hk.1.1.2.2⟩⟩⟩)), (by (with_reducible repeat (first | apply ZG | apply ZF | apply Zv)); exact ZB HO_3.out (fun _ hk => ⟨hk.1.1.1, ⟨hk.1.2, ⟨hk.2, hk.1.1.2.2⟩⟩⟩)), (bk_ BK484.out), hB_⟩)
        skip
        refine Kd.N_lit_step (Kd.slice 3 (Kd.int .i64)) _ 31 ?hg (N' := 60) ?hd (xs := ([x5_2] : List (List Int))) (inner := [.slice Ao29 x5_2.length co29]) (ok := (fun k_ => (w.heap.size ≤ k_) ∧ some k_ ≠ (.slice (some ad499) x3_1.length co31 : Value).ownBlock ∧ some k_ ≠ (v502 : Value).ownBlock ∧ k_ ≠ gb484)) (okp := (fun k_ => (w.heap.size ≤ k_) ∧ some k_ ≠ (.slice (some ad499) x3_1.length co31 : Value).ownBlock ∧ some k_ ≠ (v502 : Value).ownBlock ∧ k_ ≠ gb484)) ?hr ?hp (fun _ hk => hk) ((show ∀ k_, w48.heap.size ≤ k_ → (fun k_ => (w.heap.size ≤ k_) ∧ some k_ ≠ (.slice (some ad499) x3_1.length co31 : Value).ownBlock ∧ some k_ ≠ (v502 : Value).ownBlock ∧ k_ ≠ gb484) k_ from fun k_ hk => ⟨(Nat.le_trans (Ze hB_) hk), ZM (Kd.N_lt (rN_ HO_3.out)) k_ hk, ZM (Kd.N_lt (rN_ HO503.out)) k_ hk, Kd.freshB (bq_ BK484.out) k_ hk⟩) _ (Nat.le_refl _)) (Below.refl _ _) (Nat.le_refl _) (by simp) ?_; (case hd => rfl); (case hg => rfl); (case hr => first | (go_simp; done) | (go_simp; rfl)); (case hp => exact (Reps.one (show Kd.FK (Kd.slice 3 (Kd.int .i64)) _ _ x5_2 [.slice Ao29 x5_2.length co29] from (Kd.FK_slice_mk (ZE (ZK (ok' := (fun k_ => (w.heap.size ≤ k_) ∧ some k_ ≠ (.slice (some ad499) x3_1.length co31 : Value).ownBlock ∧ some k_ ≠ (v502 : Value).ownBlock ∧ k_ ≠ gb484)) (Kd.R_types (ZN (ZN (HO_5.out) (Kd.N_typed HO_3.out) (by decide)) (Kd.N_typed HO503.out) (by decide)) BK484.out (by decide)) (fun k_ hk => ⟨hk.1.1.1, ⟨hk.1.1.2, ⟨hk.1.2, hk.2⟩⟩⟩))).2.1 (Kd.R_F (ZK (ok' := (fun k_ => (w.heap.size ≤ k_) ∧ some k_ ≠ (.slice (some ad499) x3_1.length co31 : Value).ownBlock ∧ some k_ ≠ (v502 : Value).ownBlock ∧ k_ ≠ gb484)) (Kd.R_types (ZN (ZN (HO_5.out) (Kd.N_typed HO_3.out) (by decide)) (Kd.N_typed HO503.out) (by decide)) BK484.out (by decide)) (fun k_ hk => ⟨hk.1.1.1, ⟨hk.1.1.2, ⟨hk.1.2, hk.2⟩⟩⟩))))) (Reps.none _ _)))
        intro v513 w50 ho51 hb hg_ hnew_
        clear hg_ hnew_
        (first | rw [← Ny512.out] at ho51 | (simp only [Int.reduceToNat] at ho51; rw [← Ny512.out] at ho51))
        have n0_ := Aside0.mk (Kd.N_elder' (rN_ HO_3.out) (Kd.N_base ho51) hb)
        have n1_ := Aside0.mk (Kd.V_elder' (by (with_reducible repeat (first | apply ZQ | apply ZO | apply ZS)); exact HL499_0.out) (Kd.N_base ho51) hb)
        have n2_ := Aside0.mk (Kd.V_elder' (rV_ HO508.out) (Kd.N_base ho51) hb)
        have n3_ := Aside0.mk (Kd.V_elder' (rV_ HO522.out) (Kd.N_base ho51) hb)
        have n4_ := Aside0.mk (Kd.N_elder' (rN_ HO503.out) (Kd.N_base ho51) hb)
        have n5_ := Aside0.mk (Kd.N_lower ho51 (Ze hB_))
        have n6_ := Aside0.mk (Zd (bq_ BK484.out) hb)
        have n7_ := Aside0.mk (Kd.C_below (cf_ HR499_0.out) hb)
        have n8_ := Aside0.mk (Zc hB_ hb)
        clear HO_3
        clear HL499_0
        clear HO508
        clear HO522
        clear HO503
        clear BK484
        clear HR499_0
        clear HB
        clear HO_5
        have HO_3 := n0_
        have HL499_0 := n1_
        have HO508 := n2_
        have HO522 := n3_
        have HO503 := n4_
        have HO514 := n5_
        have BK484 := n6_
        have HR499_0 := n7_
        have HB := n8_
        clear n0_ n1_ n2_ n3_ n4_ n5_ n6_ n7_ n8_
        clear hb ho51
        refine hK.out _ _ trivial (fun hHeld => ?_)
        clear hK K
        refine no_ 60 ?_
        refine on_ 4 58 (m_ 13 1919) (fun K hK => ?_)
        refine Kd.N_append_rows_step (Kd.slice 3 (Kd.int .i64)) (w0 := w) w.heap.size (by rfl) (.tmp 54) (.tmp 57) 22 31 (.slice none 0 0) 24 rfl Try.underlying22 info31 rfl (by decide) (by omega) v502 y501 y504 _ _ _ (fun k_ => (w.heap.size ≤ k_) ∧ some k_ ≠ (v513 : Value).ownBlock ∧ k_ ≠ gb484) (fun k_ => ((fun k_ => (w.heap.size ≤ k_) ∧ some k_ ≠ (v513 : Value).ownBlock ∧ k_ ≠ gb484)) k_ ∧ some k_ ≠ (v502 : Value).ownBlock) rfl rfl ?aO ?aR (fun _ hk => hk) ?aF ?aB ?aS ?aL ?_
        (case aR => exact (by skip; exact Kd.V_F (ZR (ok' := (fun k_ => ((fun k_ => (w.heap.size ≤ k_) ∧ some k_ ≠ (v513 : Value).ownBlock ∧ k_ ≠ gb484)) k_ ∧ some k_ ≠ (v502 : Value).ownBlock)) (HO508.out) (fun k_ hk => ⟨⟨hk.1.1.1, ⟨hk.2, hk.1.1.2.2⟩⟩, hk.1.2⟩))))
        (case aB => exact hB_)
        (case aF => exact (fun k_ hk => ⟨(Nat.le_trans (Ze hB_) hk), ZM (Kd.N_lt (rN_ HO514.out)) k_ hk, Kd.freshB (bq_ BK484.out) k_ hk⟩))
        (case aO => exact (by (with_reducible repeat (first | apply ZG | apply ZF | apply Zv)); exact ZB HO503.out (fun _ hk => ⟨hk.1.1, ⟨hk.2, hk.1.2.2.2⟩⟩)))
        (case aS => exact (Ze hB_))
        (case aL => have := LMc40.out; omega)
        intro v510 w52 ho hb hg hat
        rw [← Ny509.out] at ho
        have n0_ := Aside0.mk (Kd.N_afterv (ok := (fun k_ => (w.heap.size ≤ k_) ∧ some k_ ≠ (v513 : Value).ownBlock ∧ k_ ≠ gb484)) (by (with_reducible repeat (first | apply ZG | apply ZF | apply Zv)); exact ZB HO_3.out (fun _ hk => ⟨⟨hk.1.1.1, ⟨hk.2, hk.1.1.2.2⟩⟩, hk.1.2⟩)) hg hat)
        have n1_ := Aside0.mk (ZJ (bq_ BK484.out) hg (Kd.N_ne HO503.out BK484.out (by decide)))
        have n2_ := Aside0.mk (Kd.V_afterv (ok := (fun k_ => (w.heap.size ≤ k_) ∧ some k_ ≠ (.slice (some ad499) x3_1.length co31 : Value).ownBlock ∧ some k_ ≠ (v513 : Value).ownBlock ∧ k_ ≠ gb484)) (by (with_reducible repeat (first | apply ZQ | apply ZO | apply ZS)); exact ZR HL499_0.out (fun _ hk => by ((repeat' apply And.intro) <;> (first | exact hk.1 | exact hk.2 | exact hk.1.1 | exact hk.1.2 | exact hk.2.1 | exact hk.2.2 | exact hk.1.1.1 | exact hk.1.1.2 | exact hk.1.2.1 | exact hk.1.2.2 | exact hk.2.1.1 | exact hk.2.1.2 | exact hk.2.2.1 | exact hk.2.2.2 | exact hk.1.1.1.1 | exact hk.1.1.1.2 | exact hk.1.1.2.1 | exact hk.1.1.2.2 | exact hk.1.2.1.1 | exact hk.1.2.1.2 | exact hk.1.2.2.1 | exact hk.1.2.2.2 | exact hk.2.1.1.1 | exact hk.2.1.1.2 | exact hk.2.1.2.1 | exact hk.2.1.2.2 | exact hk.2.2.1.1 | exact hk.2.2.1.2 | exact hk.2.2.2.1 | exact hk.2.2.2.2 | exact hk.1.1.1.1.1 | exact hk.1.1.1.1.2 | exact hk.1.1.1.2.1 | exact hk.1.1.1.2.2 | exact hk.1.1.2.1.1 | exact hk.1.1.2.1.2 | exact hk.1.1.2.2.1 | exact hk.1.1.2.2.2 | exact hk.1.2.1.1.1 | exact hk.1.2.1.1.2 | exact hk.1.2.1.2.1 | exact hk.1.2.1.2.2 | exact hk.1.2.2.1.1 | exact hk.1.2.2.1.2 | exact hk.1.2.2.2.1 | exact hk.1.2.2.2.2 | exact hk.2.1.1.1.1 | exact hk.2.1.1.1.2 | exact hk.2.1.1.2.1 | exact hk.2.1.1.2.2 | exact hk.2.1.2.1.1 | exact hk.2.1.2.1.2 | exact hk.2.1.2.2.1 | exact hk.2.1.2.2.2 | exact hk.2.2.1.1.1 | exact hk.2.2.1.1.2 | exact hk.2.2.1.2.1 | exact hk.2.2.1.2.2 | exact hk.2.2.2.1.1 | exact hk.2.2.2.1.2 | exact hk.2.2.2.2.1 | exact hk.2.2.2.2.2)))) hg hat)
        have n3_ := Aside0.mk (Kd.V_afterv (ok := (fun k_ => (w.heap.size ≤ k_) ∧ some k_ ≠ (v513 : Value).ownBlock ∧ k_ ≠ gb484)) (by (with_reducible repeat (first | apply ZQ | apply ZO | apply ZS)); exact ZR HO508.out (fun _ hk => ⟨⟨hk.1.1.1, ⟨hk.2, hk.1.1.2.2⟩⟩, hk.1.2⟩)) hg hat)
        have n4_ := Aside0.mk (Kd.V_afterv (ok := (fun k_ => (w.heap.size ≤ k_) ∧ some k_ ≠ (v513 : Value).ownBlock ∧ k_ ≠ gb484)) (by (with_reducible repeat (first | apply ZQ | apply ZO | apply ZS)); exact ZR HO522.out (fun _ hk => ⟨⟨hk.1.1.1, ⟨hk.2, hk.1.1.2.2⟩⟩, hk.1.2⟩)) hg hat)
        have n5_ := Aside0.mk (Kd.N_afterv (ok := (fun k_ => (w.heap.size ≤ k_) ∧ some k_ ≠ (.slice (some ad499) x3_1.length co31 : Value).ownBlock ∧ k_ ≠ gb484)) (by (with_reducible repeat (first | apply ZG | apply ZF | apply Zv)); exact ZB HO514.out (fun _ hk => ⟨⟨hk.1, ⟨hk.2.1, hk.2.2.2⟩⟩, hk.2.2.1⟩)) hg hat)
        have n6_ := Aside0.mk (hb)
        have n7_ := Aside0.mk (ho)
        clear HO_3
        clear BK484
        clear HL499_0
        clear HO508
        clear HO522
        clear HO514
        clear HB
        clear HO503
        have HO_3 := n0_
        have BK484 := n1_
        have HL499_0 := n2_
        have HO508 := n3_
        have HO522 := n4_
        have HO514 := n5_
        have HB := n6_
        have HO511 := n7_
        clear n0_ n1_ n2_ n3_ n4_ n5_ n6_ n7_
        clear ho hb hg hat
        refine hK.out _ _ trivial (fun hHeld => ?_)
        clear hK K
        refine no_ 58 ?_
        exact norm_ (by simp only [putAll, Act.put, List.setIfInBounds_toArray, List.set_cons_zero, List.set_cons_succ]) (hCont (v502, v510, v513) _ ⟨(by (with_reducible repeat (first | apply ZQ | apply ZO | apply ZS)); exact ZR HL499_0.out (fun _ hk => ⟨hk.1.1, ⟨hk.2, ⟨hk.1.2.2.1, ⟨hk.1.2.1, hk.1.2.2.2⟩⟩⟩⟩)), (by (with_reducible repeat (first | apply ZQ | apply ZO | apply ZS)); exact ZR HO508.out (fun _ hk => ⟨hk.1.1, ⟨hk.2, ⟨hk.1.2.1, hk.1.2.2⟩⟩⟩)), (rN_ HO511.out), (by (with_reducible repeat (first | apply ZG | apply ZF | apply Zv)); exact ZB HO514.out (fun _ hk => ⟨hk.1.1, ⟨hk.2, ⟨hk.1.2.1, hk.1.2.2⟩⟩⟩)), (by (with_reducible repeat (first | apply ZQ | apply ZO | apply ZS)); exact ZR HO522.out (fun _ hk => ⟨hk.1.1, ⟨hk.2, ⟨hk.1.2.1, hk.1.2.2⟩⟩⟩)), (by (with_reducible repeat (first | apply ZG | apply ZF | apply Zv)); exact ZB HO_3.out (fun _ hk => ⟨hk.1.1, ⟨hk.2, ⟨hk.1.2.1, hk.1.2.2⟩⟩⟩)), (bk_ BK484.out), hB_⟩)
       rintro ⟨v502, v510, v513⟩ w53 ⟨h0_, h1_, h2_, h3_, h4_, h5_, h6_, h7_⟩
       have n0_ : Aside0 (Kd.V (Kd.int .i64) 3 w53 w.heap.size (fun k_ => (w.heap.size ≤ k_) ∧ some k_ ≠ (v510 : Value).ownBlock ∧ some k_ ≠ (v513 : Value).ownBlock ∧ some k_ ≠ (.slice (some ad499) x3_1.length co31 : Value).ownBlock ∧ k_ ≠ gb484) (.slice A499_0 (rd_L2 x3_1 (ji33)).length c499_0) (rd_L2 x3_1 (ji33))) := ⟨h0_⟩
       have n1_ : Aside0 (Kd.V (Kd.slice 3 (Kd.int .i64)) 31 w53 w.heap.size (fun k_ => (w.heap.size ≤ k_) ∧ some k_ ≠ (v510 : Value).ownBlock ∧ some k_ ≠ (v513 : Value).ownBlock ∧ k_ ≠ gb484) (.slice (some ad499) y504.length co31) y504) := ⟨h1_⟩
       have n2_ : Aside0 (Kd.N (Kd.slice 3 (Kd.int .i64)) 31 w53 w.heap.size (fun k_ => (w.heap.size ≤ k_) ∧ some k_ ≠ (v513 : Value).ownBlock ∧ k_ ≠ gb484) v510 y509) := ⟨h2_⟩
       have n3_ : Aside0 (Kd.N (Kd.slice 3 (Kd.int .i64)) 31 w53 w.heap.size (fun k_ => (w.heap.size ≤ k_) ∧ some k_ ≠ (v510 : Value).ownBlock ∧ some k_ ≠ (.slice (some ad499) x3_1.length co31 : Value).ownBlock ∧ k_ ≠ gb484) v513 y512) := ⟨h3_⟩
       have n4_ : Aside0 (Kd.V (Kd.slice 3 (Kd.int .i64)) 31 w53 w.heap.size (fun k_ => (w.heap.size ≤ k_) ∧ some k_ ≠ (v510 : Value).ownBlock ∧ some k_ ≠ (v513 : Value).ownBlock ∧ k_ ≠ gb484) (.slice A47 y518.length c47) y518) := ⟨h4_⟩
       have n5_ : Aside0 (Kd.N (Kd.slice 3 (Kd.int .i64)) 31 w53 w.heap.size (fun k_ => (w.heap.size ≤ k_) ∧ some k_ ≠ (v510 : Value).ownBlock ∧ some k_ ≠ (v513 : Value).ownBlock ∧ k_ ≠ gb484) (.slice (some ad499) x3_1.length co31) x3_1) := ⟨h5_⟩
       have n6_ : Aside0 (w53.heap[gb484]? = some (.cells #[.int .i64 a0_0, .slice A0_1 l0_1.length c0_1] 27 (0, 0))) := ⟨h6_⟩
       have n7_ : Aside0 (Below w.heap.size w w53) := ⟨h7_⟩
       clear HO_3
       clear HO_5
       clear HL499_0
       clear BK484
       clear HR499_0
       clear HB
       clear h0_ h1_ h2_ h3_ h4_ h5_ h6_ h7_
       have HL499_0 := n0_
       have HO508 := n1_
       have HO511 := n2_
       have HO514 := n3_
       have HO522 := n4_
       have HO_3 := n5_
       have BK484 := n6_
       have HB := n7_
       clear n0_ n1_ n2_ n3_ n4_ n5_ n6_ n7_
       have hHeld := trivial
       obtain ⟨Ao55, co55, eo55⟩ := Kd.N_slice HO514.out
       (first | subst eo55 | (injection eo55 with f1_ f2_ f3_; have f4_ := f1_.symm; have f5_ := f3_.symm; clear f1_ f2_ f3_; subst f4_; subst f5_))
       refine norm_ (a' := ?_) ?_ ?_
       rotate_left
       ·simp only [putAll, Act.put, List.setIfInBounds_toArray, List.set_cons_zero, List.set_cons_succ]
        rfl
       refine on_ 7 61 (m_ 13 2047) (fun K hK => ?_)
       refine Kd.N_append_rows_step (Kd.slice 3 (Kd.int .i64)) (w0 := w) w.heap.size (by rfl) (.tmp 58) (.tmp 60) 22 31 (.slice none 0 0) 24 rfl Try.underlying22 info31 rfl (by decide) (by omega) v510 y509 y512 _ _ _ (fun k_ => (w.heap.size ≤ k_) ∧ k_ ≠ gb484) (fun k_ => ((fun k_ => (w.heap.size ≤ k_) ∧ k_ ≠ gb484)) k_ ∧ some k_ ≠ (v510 : Value).ownBlock) rfl rfl ?aO ?aR (fun _ hk => hk) ?aF ?aB ?aS ?aL ?_
       (case aR => exact (by skip; exact Kd.N_F (ZB (ok' := (fun k_ => ((fun k_ => (w.heap.size ≤ k_) ∧ k_ ≠ gb484)) k_ ∧ some k_ ≠ (v510 : Value).ownBlock)) (HO514.out) (fun k_ hk => ⟨⟨hk.1, hk.2.2.2⟩, hk.2.1⟩))))
       (case aB => exact hB_)
       (case aF => exact (fun k_ hk => ⟨(Nat.le_trans (Ze hB_) hk), Kd.freshB (bq_ BK484.out) k_ hk⟩))
       (case aO => exact (by (with_reducible repeat (first | apply ZG | apply ZF | apply Zv)); exact ZB HO511.out (fun _ hk => ⟨hk.1, hk.2.2⟩)))
       (case aS => exact (Ze hB_))
       (case aL => have := LMc41.out; omega)
       intro v516 w54 ho hb hg hat
       rw [← Ny515.out] at ho
       have n0_ := Aside0.mk (Kd.N_afterv (ok := (fun k_ => (w.heap.size ≤ k_) ∧ some k_ ≠ (.slice Ao55 y512.length co55 : Value).ownBlock ∧ k_ ≠ gb484)) (by (with_reducible repeat (first | apply ZG | apply ZF | apply Zv)); exact ZB HO_3.out (fun _ hk => ⟨⟨hk.1, ⟨hk.2.2.1, hk.2.2.2⟩⟩, hk.2.1⟩)) hg hat)
       have n1_ := Aside0.mk (ZJ (bq_ BK484.out) hg (Kd.N_ne HO511.out BK484.out (by decide)))
       have n2_ := Aside0.mk (Kd.V_afterv (ok := (fun k_ => (w.heap.size ≤ k_) ∧ some k_ ≠ (.slice (some ad499) x3_1.length co31 : Value).ownBlock ∧ some k_ ≠ (.slice Ao55 y512.length co55 : Value).ownBlock ∧ k_ ≠ gb484)) (by (with_reducible repeat (first | apply ZQ | apply ZO | apply ZS)); exact ZR HL499_0.out (fun _ hk => by ((repeat' apply And.intro) <;> (first | exact hk.1 | exact hk.2 | exact hk.1.1 | exact hk.1.2 | exact hk.2.1 | exact hk.2.2 | exact hk.1.1.1 | exact hk.1.1.2 | exact hk.1.2.1 | exact hk.1.2.2 | exact hk.2.1.1 | exact hk.2.1.2 | exact hk.2.2.1 | exact hk.2.2.2 | exact hk.1.1.1.1 | exact hk.1.1.1.2 | exact hk.1.1.2.1 | exact hk.1.1.2.2 | exact hk.1.2.1.1 | exact hk.1.2.1.2 | exact hk.1.2.2.1 | exact hk.1.2.2.2 | exact hk.2.1.1.1 | exact hk.2.1.1.2 | exact hk.2.1.2.1 | exact hk.2.1.2.2 | exact hk.2.2.1.1 | exact hk.2.2.1.2 | exact hk.2.2.2.1 | exact hk.2.2.2.2 | exact hk.1.1.1.1.1 | exact hk.1.1.1.1.2 | exact hk.1.1.1.2.1 | exact hk.1.1.1.2.2 | exact hk.1.1.2.1.1 | exact hk.1.1.2.1.2 | exact hk.1.1.2.2.1 | exact hk.1.1.2.2.2 | exact hk.1.2.1.1.1 | exact hk.1.2.1.1.2 | exact hk.1.2.1.2.1 | exact hk.1.2.1.2.2 | exact hk.1.2.2.1.1 | exact hk.1.2.2.1.2 | exact hk.1.2.2.2.1 | exact hk.1.2.2.2.2 | exact hk.2.1.1.1.1 | exact hk.2.1.1.1.2 | exact hk.2.1.1.2.1 | exact hk.2.1.1.2.2 | exact hk.2.1.2.1.1 | exact hk.2.1.2.1.2 | exact hk.2.1.2.2.1 | exact hk.2.1.2.2.2 | exact hk.2.2.1.1.1 | exact hk.2.2.1.1.2 | exact hk.2.2.1.2.1 | exact hk.2.2.1.2.2 | exact hk.2.2.2.1.1 | exact hk.2.2.2.1.2 | exact hk.2.2.2.2.1 | exact hk.2.2.2.2.2)))) hg hat)
       have n3_ := Aside0.mk (Kd.V_afterv (ok := (fun k_ => (w.heap.size ≤ k_) ∧ some k_ ≠ (.slice Ao55 y512.length co55 : Value).ownBlock ∧ k_ ≠ gb484)) (by (with_reducible repeat (first | apply ZQ | apply ZO | apply ZS)); exact ZR HO508.out (fun _ hk => ⟨⟨hk.1, ⟨hk.2.2.1, hk.2.2.2⟩⟩, hk.2.1⟩)) hg hat)
       have n4_ := Aside0.mk (Kd.V_afterv (ok := (fun k_ => (w.heap.size ≤ k_) ∧ some k_ ≠ (.slice Ao55 y512.length co55 : Value).ownBlock ∧ k_ ≠ gb484)) (by (with_reducible repeat (first | apply ZQ | apply ZO | apply ZS)); exact ZR HO522.out (fun _ hk => ⟨⟨hk.1, ⟨hk.2.2.1, hk.2.2.2⟩⟩, hk.2.1⟩)) hg hat)
       have n5_ := Aside0.mk (Kd.N_afterv (ok := (fun k_ => (w.heap.size ≤ k_) ∧ some k_ ≠ (.slice (some ad499) x3_1.length co31 : Value).ownBlock ∧ k_ ≠ gb484)) (by (with_reducible repeat (first | apply ZG | apply ZF | apply Zv)); exact ZB HO514.out (fun _ hk => ⟨⟨hk.1, ⟨hk.2.2.1, hk.2.2.2⟩⟩, hk.2.1⟩)) hg hat)
       have n6_ := Aside0.mk (hb)
       have n7_ := Aside0.mk (ho)
       clear HO_3
       clear BK484
       clear HL499_0
       clear HO508
       clear HO522
       clear HO514
       clear HB
       clear HO511
       have HO_3 := n0_
       have BK484 := n1_
       have HL499_0 := n2_
       have HO508 := n3_
       have HO522 := n4_
       have HO514 := n5_
       have HB := n6_
       have HO517 := n7_
       clear n0_ n1_ n2_ n3_ n4_ n5_ n6_ n7_
       clear ho hb hg hat
       refine hK.out _ _ trivial (fun hHeld => ?_)
       clear hK K
       refine no_ 61 ?_
       refine on_ 11 65 (m_ 13 4095) (fun K hK => ?_)
       refine Kd.N_append_rows_step (Kd.slice 3 (Kd.int .i64)) (w0 := w) w.heap.size (by rfl) (.tmp 61) (.tmp 64) 22 31 (.slice none 0 0) 24 rfl Try.underlying22 info31 rfl (by decide) (by omega) v516 y515 y518 _ _ _ (fun k_ => (w.heap.size ≤ k_) ∧ k_ ≠ gb484) (fun k_ => ((fun k_ => (w.heap.size ≤ k_) ∧ k_ ≠ gb484)) k_ ∧ some k_ ≠ (v516 : Value).ownBlock) rfl rfl ?aO ?aR (fun _ hk => hk) ?aF ?aB ?aS ?aL ?_
       (case aR => exact (by skip; exact Kd.V_F (ZR (ok' := (fun k_ => ((fun k_ => (w.heap.size ≤ k_) ∧ k_ ≠ gb484)) k_ ∧ some k_ ≠ (v516 : Value).ownBlock)) (HO522.out) (fun k_ hk => ⟨⟨hk.1.1, hk.1.2.2⟩, hk.2⟩))))
       (case aB => exact hB_)
       (case aF => exact (fun k_ hk => ⟨(Nat.le_trans (Ze hB_) hk), Kd.freshB (bq_ BK484.out) k_ hk⟩))
       (case aO => exact (rN_ HO517.out))
       (case aS => exact (Ze hB_))
       (case aL => have := LMc44.out; omega)
       intro v524 w56 ho hb hg hat
       rw [← Ny523.out] at ho
       have n0_ := Aside0.mk (Kd.N_afterv (ok := (fun k_ => (w.heap.size ≤ k_) ∧ some k_ ≠ (.slice Ao55 y512.length co55 : Value).ownBlock ∧ k_ ≠ gb484)) (rN_ HO_3.out) hg hat)
       have n1_ := Aside0.mk (ZJ (bq_ BK484.out) hg (Kd.N_ne HO517.out BK484.out (by decide)))
       have n2_ := Aside0.mk (Kd.V_afterv (ok := (fun k_ => (w.heap.size ≤ k_) ∧ some k_ ≠ (.slice (some ad499) x3_1.length co31 : Value).ownBlock ∧ some k_ ≠ (.slice Ao55 y512.length co55 : Value).ownBlock ∧ k_ ≠ gb484)) (by (with_reducible repeat (first | apply ZQ | apply ZO | apply ZS)); exact HL499_0.out) hg hat)
       have n3_ := Aside0.mk (Kd.V_afterv (ok := (fun k_ => (w.heap.size ≤ k_) ∧ some k_ ≠ (.slice Ao55 y512.length co55 : Value).ownBlock ∧ k_ ≠ gb484)) (rV_ HO508.out) hg hat)
       have n4_ := Aside0.mk (Kd.V_afterv (ok := (fun k_ => (w.heap.size ≤ k_) ∧ some k_ ≠ (.slice Ao55 y512.length co55 : Value).ownBlock ∧ k_ ≠ gb484)) (rV_ HO522.out) hg hat)
       have n5_ := Aside0.mk (Kd.N_afterv (ok := (fun k_ => (w.heap.size ≤ k_) ∧ some k_ ≠ (.slice (some ad499) x3_1.length co31 : Value).ownBlock ∧ k_ ≠ gb484)) (rN_ HO514.out) hg hat)
       have n6_ := Aside0.mk (hb)
       have n7_ := Aside0.mk (ho)
       clear HO_3
       clear BK484
       clear HL499_0
       clear HO508
       clear HO522
       clear HO514
       clear HB
       clear HO517
       have HO_3 := n0_
       have BK484 := n1_
       have HL499_0 := n2_
       have HO508 := n3_
       have HO522 := n4_
       have HO514 := n5_
       have HB := n6_
       have HO525 := n7_
       clear n0_ n1_ n2_ n3_ n4_ n5_ n6_ n7_
       clear ho hb hg hat
       refine hK.out _ _ trivial (fun hHeld => ?_)
       clear hK K
       refine no_ 65 ?_
       refine pu_ 12 3 (m_ 13 8191) ?_
       refine done_ (done_of HT_.out (by kernel_rfl)) ?_
       try go_wp2
       go_roundg k3
       case measure => have := HK1.out; have := HK2.out; have := HK3.out; omega
       case rel => exact ⟨(y523), (wrap64 (x4_1 + 1)), sm_, H', ⟨by have := HK1.out; have := HK2.out; have := HK3.out; omega⟩, ⟨rN_ HO525.out⟩, ⟨bk_ BK484.out⟩, ⟨hB_⟩⟩

end Go.Proofs.Ytdlobolnajcfnaa.PFnPositions
