-- Written by a program of this session (hooks of mine on the print): Lean checks it.
import Derived.Test.YtkmhkkhlbnhaaaaPFnExactIsCertainx0
import Derived.Test.YtkmhkkhlbnhaaaaPFnExactIsCertainx1
import Derived.Test.YtkmhkkhlbnhaaaaPFnExactIsCertainx4
namespace Go.Proofs.Ytkmhkkhlbnhaaaa.PFnExactIsCertain
open Go.RowKit Go.Proofs.YtkmhkkhlbnhaaaaW.PrintWords Go.Proofs.YtkmhkkhlbnhaaaaW.PrintLast Go.Proofs.YtkmhkkhlbnhaaaaW.PrintMore
attribute [local go_sem] max2_int min2_int max_two min_two max_three min_three max_four min_four   -- for this text's walks alone
set_option linter.unusedVariables false
set_option linter.unusedSimpArgs false

/-! ### spec_AllComplete: function 51 -/
mutual
def spec_AllComplete.l0 : Nat → List (List Int) → Int → Int → List (List Int) → Option ((List (List Int)))
 | 0, _, _, _, _ => none
 | k + 1, x3, x4, x191000, x191001 => if 0 ≤ x191000 then (if x4 < (shl .i64 1 x191000) then (spec_AllComplete.l1 k x3 x4 (([] : List Int)) 0 x191000 x191001) else (some x3)) else (none)
def spec_AllComplete.l1 : Nat → List (List Int) → Int → List Int → Int → Int → List (List Int) → Option ((List (List Int)))
 | 0, _, _, _, _, _, _ => none
 | k + 1, x3, x4, x5, x6, x191000, x191001 => if x6 < x191000 then (if 0 ≤ x6 then (if (Go.bits .and .i64 (shr .i64 x4 x6) 1) = 1 then ((some (([x6] : List Int) : List Int)).bind fun y198 => (if x5.length + y198.length < 17592186044416 then (spec_AllComplete.l1 k x3 x4 (x5 ++ y198) (wrap64 (x6 + 1)) x191000 x191001) else (none))) else (spec_AllComplete.l1 k x3 x4 x5 (wrap64 (x6 + 1)) x191000 x191001)) else (none)) else ((spec_IsComplete.f k x191000 x191001 x5).bind fun t204 => (if t204 = true then (spec_AllComplete.l2 k x3 x4 x5 (x3.length : Int) x191000 x191001) else (spec_AllComplete.l0 k x3 (wrap64 (x4 + 1)) x191000 x191001)))
def spec_AllComplete.l2 : Nat → List (List Int) → Int → List Int → Int → Int → List (List Int) → Option ((List (List Int)))
 | 0, _, _, _, _, _, _ => none
 | k + 1, x3, x4, x5, x7, x191000, x191001 => if x7 > 0 then (if 0 ≤ (wrap64 (x7 - 1)) then (if (wrap64 (x7 - 1)) < (x3.length : Int) then ((spec_l7Before.f k x5 (rd_L1 x3 (wrap64 (x7 - 1)))).bind fun t206 => (if t206 = true then (spec_AllComplete.l2 k x3 x4 x5 (wrap64 (x7 - 1)) x191000 x191001) else ((some (([] : List (List Int)) : List (List Int))).bind fun y207 => (if 0 ≤ x7 then (if x7 ≤ (x3.length : Int) then ((some (x3.take (x7 : Int).toNat : List (List Int))).bind fun y210 => (if y207.length + y210.length < 5864062014805 then ((some (y207 ++ y210 : List (List Int))).bind fun y215 => ((some (([x5] : List (List Int)) : List (List Int))).bind fun y218 => (if y215.length + y218.length < 5864062014805 then ((some (y215 ++ y218 : List (List Int))).bind fun y221 => ((some (x3.drop (x7 : Int).toNat : List (List Int))).bind fun y224 => (if y221.length + y224.length < 5864062014805 then (spec_AllComplete.l0 k (y221 ++ y224) (wrap64 (x4 + 1)) x191000 x191001) else (none)))) else (none)))) else (none))) else (none)) else (none))))) else (none)) else (none)) else ((some (([] : List (List Int)) : List (List Int))).bind fun y232 => (if 0 ≤ x7 then (if x7 ≤ (x3.length : Int) then ((some (x3.take (x7 : Int).toNat : List (List Int))).bind fun y235 => (if y232.length + y235.length < 5864062014805 then ((some (y232 ++ y235 : List (List Int))).bind fun y240 => ((some (([x5] : List (List Int)) : List (List Int))).bind fun y243 => (if y240.length + y243.length < 5864062014805 then ((some (y240 ++ y243 : List (List Int))).bind fun y246 => ((some (x3.drop (x7 : Int).toNat : List (List Int))).bind fun y249 => (if y246.length + y249.length < 5864062014805 then (spec_AllComplete.l0 k (y246 ++ y249) (wrap64 (x4 + 1)) x191000 x191001) else (none)))) else (none)))) else (none))) else (none)) else (none)))
end
def spec_AllComplete.f (k : Nat) (a0_0 : Int) (l0_1 : List (List Int)) : Option ((List (List Int))) := (some (([] : List (List Int)) : List (List Int))).bind fun y191 => ((spec_IsGraph.f k a0_0 l0_1).bind fun t194 => (if t194 = true then (spec_AllComplete.l0 k y191 0 a0_0 l0_1) else (some y191)))
theorem spec_AllComplete.mono_l : ∀ k, (∀ y0 y1 y2 y3, LeO (spec_AllComplete.l0 k y0 y1 y2 y3) (spec_AllComplete.l0 (k + 1) y0 y1 y2 y3)) ∧ (∀ y0 y1 y2 y3 y4 y5, LeO (spec_AllComplete.l1 k y0 y1 y2 y3 y4 y5) (spec_AllComplete.l1 (k + 1) y0 y1 y2 y3 y4 y5)) ∧ (∀ y0 y1 y2 y3 y4 y5, LeO (spec_AllComplete.l2 k y0 y1 y2 y3 y4 y5) (spec_AllComplete.l2 (k + 1) y0 y1 y2 y3 y4 y5))
 | 0 => ⟨fun _ _ _ _ r h => by simp [spec_AllComplete.l0] at h, fun _ _ _ _ _ _ r h => by simp [spec_AllComplete.l1] at h, fun _ _ _ _ _ _ r h => by simp [spec_AllComplete.l2] at h⟩
 | k + 1 => by
  obtain ⟨ih0, ih1, ih2⟩ := spec_AllComplete.mono_l k
  refine ⟨?_, ?_, ?_⟩
  ·intro y0 y1 y2 y3
   unfold spec_AllComplete.l0
   repeat' first
   | (with_reducible exact ih0 _ _ _ _)
   | (with_reducible exact ih1 _ _ _ _ _ _)
   | (with_reducible exact ih2 _ _ _ _ _ _)
   | (with_reducible exact spec_IsComplete.mono _ _ _ _)
   | (with_reducible exact spec_IsGraph.mono _ _ _)
   | (with_reducible exact spec_l7Before.mono _ _ _)
   | (with_reducible exact Zs _)
   | (with_reducible exact Zg _)
   | (with_reducible refine Zn ?_ ?_)
   | (with_reducible refine Zh ?_ (fun _ => ?_))
   | exact ih0 _ _ _ _
   | exact ih1 _ _ _ _ _ _
   | exact ih2 _ _ _ _ _ _
   | exact spec_IsComplete.mono _ _ _ _
   | exact spec_IsGraph.mono _ _ _
   | exact spec_l7Before.mono _ _ _
   | exact Zg _
   | refine Zn ?_ ?_
   | refine Zh ?_ (fun _ => ?_)
  ·intro y0 y1 y2 y3 y4 y5
   unfold spec_AllComplete.l1
   repeat' first
   | (with_reducible exact ih0 _ _ _ _)
   | (with_reducible exact ih1 _ _ _ _ _ _)
   | (with_reducible exact ih2 _ _ _ _ _ _)
   | (with_reducible exact spec_IsComplete.mono _ _ _ _)
   | (with_reducible exact spec_IsGraph.mono _ _ _)
   | (with_reducible exact spec_l7Before.mono _ _ _)
   | (with_reducible exact Zs _)
   | (with_reducible exact Zg _)
   | (with_reducible refine Zn ?_ ?_)
   | (with_reducible refine Zh ?_ (fun _ => ?_))
   | exact ih0 _ _ _ _
   | exact ih1 _ _ _ _ _ _
   | exact ih2 _ _ _ _ _ _
   | exact spec_IsComplete.mono _ _ _ _
   | exact spec_IsGraph.mono _ _ _
   | exact spec_l7Before.mono _ _ _
   | exact Zg _
   | refine Zn ?_ ?_
   | refine Zh ?_ (fun _ => ?_)
  ·intro y0 y1 y2 y3 y4 y5
   unfold spec_AllComplete.l2
   repeat' first
   | (with_reducible exact ih0 _ _ _ _)
   | (with_reducible exact ih1 _ _ _ _ _ _)
   | (with_reducible exact ih2 _ _ _ _ _ _)
   | (with_reducible exact spec_IsComplete.mono _ _ _ _)
   | (with_reducible exact spec_IsGraph.mono _ _ _)
   | (with_reducible exact spec_l7Before.mono _ _ _)
   | (with_reducible exact Zs _)
   | (with_reducible exact Zg _)
   | (with_reducible refine Zn ?_ ?_)
   | (with_reducible refine Zh ?_ (fun _ => ?_))
   | exact ih0 _ _ _ _
   | exact ih1 _ _ _ _ _ _
   | exact ih2 _ _ _ _ _ _
   | exact spec_IsComplete.mono _ _ _ _
   | exact spec_IsGraph.mono _ _ _
   | exact spec_l7Before.mono _ _ _
   | exact Zg _
   | refine Zn ?_ ?_
   | refine Zh ?_ (fun _ => ?_)
theorem spec_AllComplete.mono : ∀ a0 a1 k, LeO (spec_AllComplete.f k a0 a1) (spec_AllComplete.f (k + 1) a0 a1) := by
 intro a0 a1 k
 obtain ⟨ih0, ih1, ih2⟩ := spec_AllComplete.mono_l k
 unfold spec_AllComplete.f
 repeat' first
   | (with_reducible exact ih0 _ _ _ _)
   | (with_reducible exact ih1 _ _ _ _ _ _)
   | (with_reducible exact ih2 _ _ _ _ _ _)
   | (with_reducible exact spec_IsComplete.mono _ _ _ _)
   | (with_reducible exact spec_IsGraph.mono _ _ _)
   | (with_reducible exact spec_l7Before.mono _ _ _)
   | (with_reducible exact Zs _)
   | (with_reducible exact Zg _)
   | (with_reducible refine Zn ?_ ?_)
   | (with_reducible refine Zh ?_ (fun _ => ?_))
   | exact ih0 _ _ _ _
   | exact ih1 _ _ _ _ _ _
   | exact ih2 _ _ _ _ _ _
   | exact spec_IsComplete.mono _ _ _ _
   | exact spec_IsGraph.mono _ _ _
   | exact spec_l7Before.mono _ _ _
   | exact Zg _
   | refine Zn ?_ ?_
   | refine Zh ?_ (fun _ => ?_)
def spec_AllComplete.T17 : Bool × List (List Nat × List Nat) := (true, [([], []), ([], []), ([], []), ([1, 2], [1, 2]), ([0, 3], [0, 3]), ([], []), ([5], [5]), ([4, 6, 4], [4, 6]), ([], []), ([], []), ([8, 9], [8, 9]), ([7, 10, 7], [7, 10]), ([11, 11, 0, 1, 2, 3, 4, 5, 6, 7, 8, 9, 10, 11], [1, 8, 11])])
def spec_AllComplete.B17 : List Nat := [0, 0, 0, 6, 15, 0, 32, 127, 0, 0, 768, 2047, 4095]
theorem spec_AllComplete.tab17 : rtab .any (opsOf Try.f51 17) = spec_AllComplete.T17 := by kernel_rfl
theorem spec_AllComplete.bits17 : waitsOk spec_AllComplete.T17.2 spec_AllComplete.B17 = true := by kernel_rfl
set_option maxHeartbeats 8000000 in
set_option maxRecDepth 100000 in
theorem spec_AllComplete.calls (k : Nat) (a0_0 : Int) (A0_1 : Option Addr) (c0_1 : Nat) (l0_1 : List (List Int)) (r : List (List Int)) (w : World) (hr0_1 : Kd.C (Kd.slice 3 (Kd.int .i64)) w A0_1 l0_1.length l0_1) (hc0_1 : l0_1.length ≤ c0_1) (h : spec_AllComplete.f k a0_0 l0_1 = some r) :
  Calls Try.prog 51 #[.agg #[.int .i64 a0_0, .slice A0_1 l0_1.length c0_1]] w fun e w' => ∃ v0_ : Value, e = .returned (v0_) ∧ Kd.N (Kd.slice 3 (Kd.int .i64)) 38 w' w.heap.size (fun k_ => (w.heap.size ≤ k_)) v0_ r ∧ Below w.heap.size w w' := by
 have hu27 := Try.underlying27
 have HR0_1 := Aside0.mk hr0_1
 have HC0_1 := Aside0.mk hc0_1
 clear hr0_1 hc0_1
 have HB := Aside0.mk (Below.refl w.heap.size w)
 have H : ((some (([] : List (List Int)) : List (List Int))).bind fun y191 => ((spec_IsGraph.f k a0_0 l0_1).bind fun t194 => (if t194 = true then (spec_AllComplete.l0 k y191 0 a0_0 l0_1) else (some y191)))) = some r := h
 clear h
 obtain ⟨y191, hy191⟩ : ∃ y_ : List (List Int), y_ = (([] : List (List Int))) := ⟨_, rfl⟩
 replace H : ((spec_IsGraph.f k a0_0 l0_1).bind fun t194 => (if t194 = true then (spec_AllComplete.l0 k y191 0 a0_0 l0_1) else (some y191))) = some r := hy_ hy191 H
 have Ny191 := Aside0.mk hy191
 clear hy191
 replace H := Option.bind_eq_some_iff.mp H
 obtain ⟨t194, A20, H⟩ := H
 replace H : (if t194 = true then (spec_AllComplete.l0 k y191 0 a0_0 l0_1) else (some y191)) = some r := H
 have A2 := Aside0.mk A20
 clear A20
 by_cases c3 : t194 = true
 ·subst c3
  have H1 : (spec_AllComplete.l0 k y191 0 a0_0 l0_1) = some r := by rw [if_pos rfl] at H; exact H
  clear H
  have H := H1
  clear H1
  have H' := Aside0.mk H
  clear H
  go_enter Try.func51, Try.ntmps51
  go_wp2_with (first | ((with_reducible refine Zr (N := 1) rfl ?_); refine Zu ?hg (N := 1) ?hd (cs := #[.int .i64 a0_0, .slice A0_1 l0_1.length c0_1]) (t := 27) ?hr ?_; (case hd => rfl); (case hg => rfl); (case hr => first | (go_simp; done) | (go_simp; rfl)); intro gb190 hg w4 hbox hb; have n0_ := Aside0.mk (Zf hb_ hb); have n1_ := Aside0.mk (hbox); have n2_ := Aside0.mk ((hz_ hg : w.heap.size ≤ gb190)); have n3_ := Aside0.mk ((hz_ hg : w.heap.size ≤ gb190)); clear HB; have HB := n0_; have BK190 := n1_; have GW190 := n2_; have GE190 := n3_; clear n0_ n1_ n2_ n3_; clear hb hbox hg) | ((with_reducible refine Zr (N := 8) rfl ?_); refine Kd.N_lit (Kd.slice 3 (Kd.int .i64)) _ 38 ?hg (N' := 8) ?hd (xs := ([] : List (List Int))) (inner := []) (ok := (fun k_ => (w.heap.size ≤ k_) ∧ k_ ≠ gb190)) (okp := (fun k_ => (w.heap.size ≤ k_) ∧ k_ ≠ gb190)) ?hr ?hp (fun _ hk => hk) ((show ∀ k_, w4.heap.size ≤ k_ → (fun k_ => (w.heap.size ≤ k_) ∧ k_ ≠ gb190) k_ from fun k_ hk => ⟨(Nat.le_trans (Zi hb_) hk), Kd.freshB (g := gb190) (o := .cells #[.int .i64 a0_0, .slice A0_1 l0_1.length c0_1] 27 (0, 0)) (bk_ BK190.out) k_ hk⟩) _ (Nat.le_refl _)) (Below.refl _ _) (Nat.le_refl _) (by simp) ?_; (case hd => rfl); (case hg => rfl); (case hr => first | (go_simp; done) | (go_simp; rfl)); (case hp => exact (Reps.none _ _)); intro v192 w5 ho6 hb hg_ hnew_; clear hg_ hnew_; (first | rw [← Ny191.out] at ho6 | (simp only [Int.reduceToNat] at ho6; rw [← Ny191.out] at ho6)); have n0_ := Aside0.mk (Kd.N_lower ho6 (Zi hb_)); have n1_ := Aside0.mk (Zj (g := gb190) (o := .cells #[.int .i64 a0_0, .slice A0_1 l0_1.length c0_1] 27 (0, 0)) (bk_ BK190.out) hb); have n2_ := Aside0.mk (Zf hb_ hb); clear BK190; clear HB; have HO193 := n0_; have BK190 := n1_; have HB := n2_; clear n0_ n1_ n2_; clear hb ho6; have hcz7_0 : w5.cell? ⟨gb190, 0, none⟩ = some (.int .i64 a0_0) := (Ze BK190.out 0).trans rfl; have hcz7_1 : w5.cell? ⟨gb190, 1, none⟩ = some (.slice A0_1 l0_1.length c0_1) := (Ze BK190.out 1).trans rfl; have hfz7_0 := Zd BK190.out 0; have hfz7_1 := Zd BK190.out 1) | ((with_reducible refine Zl (f := 57) rfl ?_); refine Zx (some 10) rfl rfl Try.func57 (by kernel_rfl) rfl #[.agg #[.int .i64 a0_0, .slice A0_1 l0_1.length c0_1]] rfl ar_ ?_; (with_reducible refine (spec_IsGraph.calls k a0_0 _ _ l0_1 true _ ?side1 ?side2 A2.out).mono ?_); (case side1 => exact cb_ HR0_1.out); (case side2 => exact HC0_1.out); rintro e w8 ⟨rfl, hb⟩; refine ⟨_, rfl, ?_⟩; have n0_ := Aside0.mk (Kd.N_below (rN_ HO193.out) hb); have n1_ := Aside0.mk (Zj (g := gb190) (o := .cells #[.int .i64 a0_0, .slice A0_1 l0_1.length c0_1] 27 (0, 0)) (bk_ BK190.out) hb); have n2_ := Aside0.mk (Zf hb_ hb); clear HO193; clear BK190; clear HB; have HO193 := n0_; have BK190 := n1_; have HB := n2_; clear n0_ n1_ n2_; (try clear hb); (try clear hb2); (try clear hk); (try clear hi)))
  go_loopg [3, 4] k (fun kq v3 v4 w' => ∃ (x3_1 : List (List Int)) (x4_1 : Int), v4 = .int .i64 x4_1 ∧ Aside0 (spec_AllComplete.l0 kq x3_1 x4_1 a0_0 l0_1 = some r) ∧ Aside0 (kq ≤ k) ∧ Aside0 (Kd.N (Kd.slice 3 (Kd.int .i64)) 38 w' w.heap.size (fun k_ => (w.heap.size ≤ k_) ∧ k_ ≠ gb190) v3 x3_1) ∧ Aside0 (w'.heap[gb190]? = some (.cells #[.int .i64 a0_0, (.slice A0_1 l0_1.length c0_1)] 27 (0, 0))) ∧ Aside0 (Below w.heap.size w w'))
  case atStart => exact ⟨(y191), (0), sm_, H', ⟨Nat.le_refl _⟩, ⟨rN_ HO193.out⟩, ⟨bk_ BK190.out⟩, ⟨hb_⟩⟩
  case round =>
   clear H'
   try clear p2
   try clear c3
   try clear c5
   try clear hcz7_0
   try clear hcz7_1
   try clear hfz7_0
   try clear hfz7_1
   obtain ⟨x3_1, x4_1, rfl, HA, HK1, HO_3, BK190, HB⟩ := hrel
   cases gk with
   | zero => exact absurd HA.out (by simp [spec_AllComplete.l0])
   | succ k1 =>
    have H := HA.out
    clear HA
    simp only [spec_AllComplete.l0] at H
    by_cases c9 : 0 ≤ a0_0
    ·rw [if_pos c9] at H
     have c9b0 := eq_true c9
     have c9b1 : decide (0 ≤ a0_0) = true := decide_eq_true c9
     clear c9
     obtain ⟨ji10, hji10⟩ : ∃ j_ : Int, (shl .i64 1 a0_0) = j_ := ⟨_, rfl⟩
     replace H : (if x4_1 < (ji10) then (spec_AllComplete.l1 k1 x3_1 x4_1 (([] : List Int)) 0 a0_0 l0_1) else (some x3_1)) = some r := by first | (rw [hji10] at H; exact H) | (simp only [hji10] at H ⊢; exact H)
     have hji10_ : (IntKind.i64.wrap (1 * 2 ^ min a0_0.toNat 64)) = ji10 := hji10
     have hji10z : a0_0 ≤ 64 → (IntKind.i64.wrap (1 * 2 ^ a0_0.toNat)) = ji10 := shl_small hji10
     have hji10u : (IntKind.i64.wrap (2 ^ min a0_0.toNat 64)) = ji10 := by have h_ := hji10_; rw [Int.one_mul] at h_; exact h_
     have hji10v : a0_0 ≤ 64 → (IntKind.i64.wrap (2 ^ a0_0.toNat)) = ji10 := fun hle_ => by have h_ := hji10z hle_; rw [Int.one_mul] at h_; exact h_
     have hji10y : (wrap64 (1 * 2 ^ min a0_0.toNat 64)) = ji10 := (Zk _).symm.trans hji10_
     have hji10x : a0_0 ≤ 64 → (wrap64 (1 * 2 ^ a0_0.toNat)) = ji10 := fun h_ => (Zk _).symm.trans (hji10z h_)
     by_cases c11 : x4_1 < (ji10)
     ·rw [if_pos c11] at H
      have c11b0 : decide (x4_1 < (ji10)) = true := decide_eq_true c11
      clear c11
      obtain ⟨y195, hy195⟩ : ∃ y_ : List Int, y_ = (([] : List Int)) := ⟨_, rfl⟩
      replace H : (spec_AllComplete.l1 k1 x3_1 x4_1 y195 0 a0_0 l0_1) = some r := hy_ hy195 H
      have Ny195 := Aside0.mk hy195
      clear hy195
      have H' := Aside0.mk H
      clear H
      have hcz12_0 : wr.cell? ⟨gb190, 0, none⟩ = some (.int .i64 a0_0) := (Ze BK190.out 0).trans rfl
      have hcz12_1 : wr.cell? ⟨gb190, 1, none⟩ = some (.slice A0_1 l0_1.length c0_1) := (Ze BK190.out 1).trans rfl
      have hfz12_0 := Zd BK190.out 0
      have hfz12_1 := Zd BK190.out 1
      go_wp2_with (first | ((with_reducible refine Zr (N := 20) rfl ?_); refine Kd.R_lit (Kd.int .i64) _ 3 ?hg (N := 20) ?hd (xs := ([] : List Int)) (inner := []) (ok := fun _ => True) (okp := fun _ => True) ?hr ?hp (fun _ hk => hk) trivial (Below.refl _ _) (Nat.le_refl _) (by simp) ?_; (case hd => rfl); (case hg => rfl); (case hr => first | (go_simp; done) | (go_simp; rfl)); (case hp => exact (Reps.none _ _)); intro v196 w13 ho14 hb hg_ hnew_; clear hg_ hnew_; (first | rw [← Ny195.out] at ho14 | (simp only [Int.reduceToNat] at ho14; rw [← Ny195.out] at ho14)); have n0_ := Aside0.mk (Kd.N_elder' (rN_ HO_3.out) (Kd.R_base ho14) hb); have n1_ := Aside0.mk (Kd.R_lower (Kd.R_newM (M := fun k_ => (w.heap.size ≤ k_)) ho14 (Zi hb_) (fun k_ h_ => h_)) (Zi hb_)); have n2_ := Aside0.mk (Zj (g := gb190) (o := .cells #[.int .i64 a0_0, .slice A0_1 l0_1.length c0_1] 27 (0, 0)) (bk_ BK190.out) hb); have n3_ := Aside0.mk (Zf hb_ hb); clear HO_3; clear BK190; clear HB; have HO_3 := n0_; have HO197 := n1_; have BK190 := n2_; have HB := n3_; clear n0_ n1_ n2_ n3_; clear hb ho14))
      go_loopg [5, 6] k1 (fun kq v5 v6 w' => ∃ (x5_2 : List Int) (x6_2 : Int), v6 = .int .i64 x6_2 ∧ Aside0 (spec_AllComplete.l1 kq x3_1 x4_1 x5_2 x6_2 a0_0 l0_1 = some r) ∧ Aside0 (kq ≤ k1) ∧ Aside0 (Kd.N (Kd.slice 3 (Kd.int .i64)) 38 w' w.heap.size (fun k_ => (w.heap.size ≤ k_) ∧ some k_ ≠ (v5 : Value).ownBlock ∧ k_ ≠ gb190) u3 x3_1) ∧ Aside0 (Kd.R (Kd.int .i64) 3 w' w.heap.size (fun k_ => (w.heap.size ≤ k_)) v5 x5_2) ∧ Aside0 (w'.heap[gb190]? = some (.cells #[.int .i64 a0_0, (.slice A0_1 l0_1.length c0_1)] 27 (0, 0))) ∧ Aside0 (Below w.heap.size w w'))
      case atStart => exact ⟨(y195), (0), sm_, H', ⟨Nat.le_refl _⟩, ⟨by (with_reducible repeat (first | apply ZD | apply ZC | apply Kd.N_drew)); exact ZB HO_3.out (fun _ hk => ⟨hk.1.1, ⟨hk.2, hk.1.2⟩⟩)⟩, ⟨by (with_reducible repeat (first | apply Kd.R_alloc | apply Kd.R_drewN | apply Kd.R_drew)); exact Kd.R_mono HO197.out (fun _ hk => hk.1)⟩, ⟨bk_ BK190.out⟩, ⟨hb_⟩⟩
      case round =>
       clear H'
       try clear c1
       try clear p2
       try clear c3
       try clear c5
       try clear p6
       try clear c9
       try clear c9b0
       try clear c9b1
       try clear c11
       try clear c11b0
       try clear hcz12_0
       try clear hcz12_1
       try clear hcz7_0
       try clear hcz7_1
       try clear hfz12_0
       try clear hfz12_1
       try clear hfz7_0
       try clear hfz7_1
       try clear p2
       obtain ⟨x5_2, x6_2, rfl, HA, HK2, HO_3, HO_5, BK190, HB⟩ := hrel
       cases gk with
       | zero => exact absurd HA.out (by simp [spec_AllComplete.l1])
       | succ k2 =>
        have H := HA.out
        clear HA
        simp only [spec_AllComplete.l1] at H
        by_cases c15 : x6_2 < a0_0
        ·rw [if_pos c15] at H
         have c15b0 : decide (x6_2 < a0_0) = true := decide_eq_true c15
         clear c15
         by_cases c16 : 0 ≤ x6_2
         ·rw [if_pos c16] at H
          have c16b0 := eq_true c16
          have c16b1 : decide (0 ≤ x6_2) = true := decide_eq_true c16
          clear c16
          obtain ⟨ji17, hji17⟩ : ∃ j_ : Int, (shr .i64 x4_1 x6_2) = j_ := ⟨_, rfl⟩
          replace H : (if (Go.bits .and .i64 (ji17) 1) = 1 then ((some (([x6_2] : List Int) : List Int)).bind fun y198 => (if x5_2.length + y198.length < 17592186044416 then (spec_AllComplete.l1 k2 x3_1 x4_1 (x5_2 ++ y198) (wrap64 (x6_2 + 1)) a0_0 l0_1) else (none))) else (spec_AllComplete.l1 k2 x3_1 x4_1 x5_2 (wrap64 (x6_2 + 1)) a0_0 l0_1)) = some r := by first | (rw [hji17] at H; exact H) | (simp only [hji17] at H ⊢; exact H)
          have hji17_ : (x4_1 / 2 ^ min x6_2.toNat 64) = ji17 := hji17
          have hji17z : x6_2 ≤ 64 → (x4_1 / 2 ^ x6_2.toNat) = ji17 := shr_small hji17
          by_cases c18 : (Go.bits .and .i64 (ji17) 1) = 1
          ·rw [if_pos c18] at H
           have c18b0 : ((Go.bits .and .i64 (ji17) 1) == 1) = true := beq_iff_eq.mpr c18
           have c18b1 : ((Go.bits .and .i64 (ji17) 1) != 1) = false := bne_eq_false_iff_eq.mpr c18
           clear c18
           obtain ⟨y198, hy198⟩ : ∃ y_ : List Int, y_ = (([x6_2] : List Int)) := ⟨_, rfl⟩
           replace H : (if x5_2.length + y198.length < 17592186044416 then (spec_AllComplete.l1 k2 x3_1 x4_1 (x5_2 ++ y198) (wrap64 (x6_2 + 1)) a0_0 l0_1) else (none)) = some r := hy_ hy198 H
           have Ny198 := Aside0.mk hy198
           clear hy198
           by_cases c19 : x5_2.length + y198.length < 17592186044416
           ·rw [if_pos c19] at H
            have LMc19 := Aside0.mk c19
            clear c19
            obtain ⟨y201, hy201⟩ : ∃ y_ : List Int, y_ = (x5_2 ++ y198) := ⟨_, rfl⟩
            replace H : (spec_AllComplete.l1 k2 x3_1 x4_1 y201 (wrap64 (x6_2 + 1)) a0_0 l0_1) = some r := hy_ hy201 H
            have Ny201 := Aside0.mk hy201
            clear hy201
            have H' := Aside0.mk H
            clear H
            have hcz20_0 : wr.cell? ⟨gb190, 0, none⟩ = some (.int .i64 a0_0) := (Ze BK190.out 0).trans rfl
            have hcz20_1 : wr.cell? ⟨gb190, 1, none⟩ = some (.slice A0_1 l0_1.length c0_1) := (Ze BK190.out 1).trans rfl
            have hfz20_0 := Zd BK190.out 0
            have hfz20_1 := Zd BK190.out 1
            go_wp2_with (first | ((with_reducible refine Zr (N := 34) rfl ?_); refine Kd.R_lit (Kd.int .i64) _ 3 ?hg (N := 34) ?hd (xs := ([x6_2] : List Int)) (inner := [.int .i64 x6_2]) (ok := fun _ => True) (okp := fun _ => True) ?hr ?hp (fun _ hk => hk) trivial (Below.refl _ _) (Nat.le_refl _) (by simp) ?_; (case hd => rfl); (case hg => rfl); (case hr => first | (go_simp; done) | (go_simp; rfl)); (case hp => exact (Reps.one (show Kd.M (Kd.int .i64) _ _ _ x6_2 [.int .i64 x6_2] from rfl) (Reps.none _ _))); intro v199 w21 ho22 hb hg_ hnew_; clear hg_ hnew_; (first | rw [← Ny198.out] at ho22 | (simp only [Int.reduceToNat] at ho22; rw [← Ny198.out] at ho22)); have n0_ := Aside0.mk (Kd.N_elder' (rN_ HO_3.out) (Kd.R_base ho22) hb); have n1_ := Aside0.mk (Kd.R_elder' (rR_ HO_5.out) (Kd.R_base ho22) hb); have n2_ := Aside0.mk (Kd.R_lower (Kd.R_new' (Kd.R_newM (M := fun k_ => (w.heap.size ≤ k_)) ho22 (Zi hb_) (fun k_ h_ => h_)) (Kd.R_lt (rR_ HO_5.out))) (Zi hb_)); have n3_ := Aside0.mk (Zj (g := gb190) (o := .cells #[.int .i64 a0_0, .slice A0_1 l0_1.length c0_1] 27 (0, 0)) (bk_ BK190.out) hb); have n4_ := Aside0.mk (Zf hb_ hb); clear HO_3; clear HO_5; clear BK190; clear HB; have HO_3 := n0_; have HO_5 := n1_; have HO200 := n2_; have BK190 := n3_; have HB := n4_; clear n0_ n1_ n2_ n3_ n4_; clear hb ho22; obtain ⟨Ao24, co24, eo24⟩ := Kd.R_slice HO200.out; subst eo24) | ((with_reducible refine gate_builtin (b := .append) (xs := #[.tmp 32, .tmp 34]) rfl ?_); at_builtin; refine Kd.R_append_rows (Kd.int .i64) (w0 := w) w.heap.size rfl (.tmp 32) (.tmp 34) 38 3 (.int .i64 0) 8 rfl Try.underlying38 info3 rfl (by decide) (by omega) u5 x5_2 y198 _ _ _ (fun k_ => (w.heap.size ≤ k_) ∧ some k_ ≠ (.slice Ao24 y198.length co24 : Value).ownBlock) (fun _ => False) rfl rfl ?aO ?aR (fun _ _ h => h) (fun _ h => h.elim) ?aF ?aB ?aS ?aL ?_; (case aR => repeat (first | exact (Zw HO200.out).2.2 | (with_reducible refine Zv ?_ _) | (with_reducible refine Zt ?_ _) | (with_reducible refine Zy ?_))); (case aB => exact hb_); (case aF => exact (fun k_ hk => ⟨(Nat.le_trans (Zi hb_) hk), Kd.fresh' (Kd.R_lt (rR_ HO200.out)) k_ hk⟩)); (case aO => exact (rR_ HO_5.out)); (case aS => exact (Zi hb_)); (case aL => have := LMc19.out; omega); intro v202 w23 ho hb hg hat; rw [← Ny201.out] at ho; have n0_ := Aside0.mk (Kd.N_afterv (ok := (fun k_ => (w.heap.size ≤ k_) ∧ some k_ ≠ (.slice Ao24 y198.length co24 : Value).ownBlock ∧ k_ ≠ gb190)) (by (with_reducible repeat (first | apply ZD | apply ZC | apply Kd.N_drew)); exact ZB HO_3.out (fun _ hk => ⟨⟨hk.1.1, ⟨hk.2, hk.1.2.2⟩⟩, hk.1.2.1⟩)) hg hat); have n1_ := Aside0.mk (blk_grown (g := gb190) (o := .cells #[.int .i64 a0_0, .slice A0_1 l0_1.length c0_1] 27 (0, 0)) (bk_ BK190.out) hg (Kd.R_ne HO_5.out BK190.out (by decide))); have n2_ := Aside0.mk (Kd.R_after (ok := (fun k_ => (w.heap.size ≤ k_))) (by (with_reducible repeat (first | apply Kd.R_alloc | apply Kd.R_drewN | apply Kd.R_drew)); exact Kd.R_mono HO200.out (fun _ hk => ⟨hk.1.1, hk.2⟩)) hg hat); have n3_ := Aside0.mk (hb); have n4_ := Aside0.mk (ho); clear HO_3; clear BK190; clear HO200; clear HB; clear HO_5; have HO_3 := n0_; have BK190 := n1_; have HO200 := n2_; have HB := n3_; have HO203 := n4_; clear n0_ n1_ n2_ n3_ n4_; clear ho hb hg hat))
            go_roundg k2
            case measure => have := HK1.out; have := HK2.out; omega
            case rel => exact ⟨(y201), (wrap64 (x6_2 + 1)), sm_, H', ⟨by have := HK1.out; have := HK2.out; omega⟩, ⟨by (with_reducible repeat (first | apply ZD | apply ZC | apply Kd.N_drew)); exact ZB HO_3.out (fun _ hk => ⟨hk.1.1, ⟨hk.2, hk.1.2.2⟩⟩)⟩, ⟨by (with_reducible repeat (first | apply Kd.R_alloc | apply Kd.R_drewN | apply Kd.R_drew)); exact Kd.R_mono HO203.out (fun _ hk => hk.1)⟩, ⟨bk_ BK190.out⟩, ⟨hb_⟩⟩
           ·rw [if_neg c19] at H
            exact absurd H (by simp)
          ·rw [if_neg c18] at H
           have c18b0 : ((Go.bits .and .i64 (ji17) 1) == 1) = false := beq_eq_false_iff_ne.mpr c18
           have c18b1 : ((Go.bits .and .i64 (ji17) 1) != 1) = true := bne_iff_ne.mpr c18
           have H' := Aside0.mk H
           clear H
           have hcz25_0 : wr.cell? ⟨gb190, 0, none⟩ = some (.int .i64 a0_0) := (Ze BK190.out 0).trans rfl
           have hcz25_1 : wr.cell? ⟨gb190, 1, none⟩ = some (.slice A0_1 l0_1.length c0_1) := (Ze BK190.out 1).trans rfl
           have hfz25_0 := Zd BK190.out 0
           have hfz25_1 := Zd BK190.out 1
           go_wp2
           go_roundg k2
           case measure => have := HK1.out; have := HK2.out; omega
           case rel => exact ⟨(x5_2), (wrap64 (x6_2 + 1)), sm_, H', ⟨by have := HK1.out; have := HK2.out; omega⟩, ⟨rN_ HO_3.out⟩, ⟨rR_ HO_5.out⟩, ⟨bk_ BK190.out⟩, ⟨hb_⟩⟩
         ·rw [if_neg c16] at H
          exact absurd H (by simp)
        ·rw [if_neg c15] at H
         have c15b0 : decide (x6_2 < a0_0) = false := decide_eq_false c15
         clear c15
         replace H := Option.bind_eq_some_iff.mp H
         obtain ⟨t204, A260, H⟩ := H
         replace H : (if t204 = true then (spec_AllComplete.l2 k2 x3_1 x4_1 x5_2 (x3_1.length : Int) a0_0 l0_1) else (spec_AllComplete.l0 k2 x3_1 (wrap64 (x4_1 + 1)) a0_0 l0_1)) = some r := H
         have A26 := Aside0.mk A260
         clear A260
         by_cases c27 : t204 = true
         ·subst c27
          have H1 : (spec_AllComplete.l2 k2 x3_1 x4_1 x5_2 (x3_1.length : Int) a0_0 l0_1) = some r := by rw [if_pos rfl] at H; exact H
          clear H
          have H := H1
          clear H1
          have H' := Aside0.mk H
          clear H
          have hcz28_0 : wr.cell? ⟨gb190, 0, none⟩ = some (.int .i64 a0_0) := (Ze BK190.out 0).trans rfl
          have hcz28_1 : wr.cell? ⟨gb190, 1, none⟩ = some (.slice A0_1 l0_1.length c0_1) := (Ze BK190.out 1).trans rfl
          have hfz28_0 := Zd BK190.out 0
          have hfz28_1 := Zd BK190.out 1
          obtain ⟨Ao29, co29, eo29⟩ := Kd.R_slice HO_5.out
          subst eo29
          go_wp2_with (first | ((with_reducible refine Zl (f := 77) rfl ?_); refine Zx (some 38) rfl rfl Try.func77 (by kernel_rfl) rfl #[.agg #[.int .i64 a0_0, .slice A0_1 l0_1.length c0_1], .slice Ao29 x5_2.length co29] rfl ar_ ?_; (with_reducible refine (spec_IsComplete.calls k2 a0_0 _ _ l0_1 _ _ x5_2 true _ ?side1 ?side2 ?side3 ?side4 A26.out).mono ?_); (case side1 => exact cb_ HR0_1.out); (case side2 => exact HC0_1.out); (case side3 => repeat (first | exact (Zw HO_5.out).2.2 | (with_reducible refine Zv ?_ _) | (with_reducible refine Zt ?_ _) | (with_reducible refine Zy ?_))); (case side4 => exact (Zw HO_5.out).2.1); rintro e w30 ⟨rfl, hb⟩; refine ⟨_, rfl, ?_⟩; have n0_ := Aside0.mk (Kd.N_below (rN_ HO_3.out) hb); have n1_ := Aside0.mk (Kd.R_below (rR_ HO_5.out) hb); have n2_ := Aside0.mk (Zj (g := gb190) (o := .cells #[.int .i64 a0_0, .slice A0_1 l0_1.length c0_1] 27 (0, 0)) (bk_ BK190.out) hb); have n3_ := Aside0.mk (Zf hb_ hb); clear HO_3; clear HO_5; clear BK190; clear HB; have HO_3 := n0_; have HO_5 := n1_; have BK190 := n2_; have HB := n3_; clear n0_ n1_ n2_ n3_; (try clear hb); (try clear hb2); (try clear hk); (try clear hi); obtain ⟨Ao31, co31, eo31⟩ := Kd.N_slice HO_3.out; subst eo31))
          go_loopg [7] k2 (fun kq v7 w' => ∃ (x7_3 : Int), v7 = .int .i64 x7_3 ∧ Aside0 (spec_AllComplete.l2 kq x3_1 x4_1 x5_2 x7_3 a0_0 l0_1 = some r) ∧ Aside0 (kq ≤ k2) ∧ Aside0 (Kd.N (Kd.slice 3 (Kd.int .i64)) 38 w' w.heap.size (fun k_ => (w.heap.size ≤ k_) ∧ some k_ ≠ ((.slice Ao29 x5_2.length co29) : Value).ownBlock ∧ k_ ≠ gb190) (.slice Ao31 x3_1.length co31) x3_1) ∧ Aside0 (Kd.R (Kd.int .i64) 3 w' w.heap.size (fun k_ => (w.heap.size ≤ k_)) (.slice Ao29 x5_2.length co29) x5_2) ∧ Aside0 (w'.heap[gb190]? = some (.cells #[.int .i64 a0_0, (.slice A0_1 l0_1.length c0_1)] 27 (0, 0))) ∧ Aside0 (Below w.heap.size w w'))
          case atStart => exact ⟨((x3_1.length : Int)), sm_, H', ⟨Nat.le_refl _⟩, ⟨rN_ HO_3.out⟩, ⟨rR_ HO_5.out⟩, ⟨bk_ BK190.out⟩, ⟨hb_⟩⟩
          case round =>
           clear H'
           try clear c1
           try clear c2
           try clear p2
           try clear c3
           try clear c5
           try clear p6
           try clear c7
           try clear c9
           try clear c9b0
           try clear c9b1
           try clear c11
           try clear c11b0
           try clear c15
           try clear c15b0
           try clear c16
           try clear c16b0
           try clear c16b1
           try clear c18
           try clear c18b0
           try clear c18b1
           try clear c19
           try clear c27
           try clear hcz12_0
           try clear hcz12_1
           try clear hcz20_0
           try clear hcz20_1
           try clear hcz25_0
           try clear hcz25_1
           try clear hcz28_0
           try clear hcz28_1
           try clear hcz7_0
           try clear hcz7_1
           try clear hfz12_0
           try clear hfz12_1
           try clear hfz20_0
           try clear hfz20_1
           try clear hfz25_0
           try clear hfz25_1
           try clear hfz28_0
           try clear hfz28_1
           try clear hfz7_0
           try clear hfz7_1
           try clear p2
           try clear p6
           obtain ⟨x7_3, rfl, HA, HK3, HO_3, HO_5, BK190, HB⟩ := hrel
           cases gk with
           | zero => exact absurd HA.out (by simp [spec_AllComplete.l2])
           | succ k3 =>
            have H := HA.out
            clear HA
            simp only [spec_AllComplete.l2] at H
            by_cases c32 : x7_3 > 0
            ·rw [if_pos c32] at H
             have c32b0 : decide (0 < x7_3) = true := decide_eq_true c32
             clear c32
             obtain ⟨ji33, hji33⟩ : ∃ j_ : Int, (wrap64 (x7_3 - 1)) = j_ := ⟨_, rfl⟩
             replace H : (if 0 ≤ (ji33) then (if (ji33) < (x3_1.length : Int) then ((spec_l7Before.f k3 x5_2 (rd_L1 x3_1 (ji33))).bind fun t206 => (if t206 = true then (spec_AllComplete.l2 k3 x3_1 x4_1 x5_2 ji33 a0_0 l0_1) else ((some (([] : List (List Int)) : List (List Int))).bind fun y207 => (if 0 ≤ x7_3 then (if x7_3 ≤ (x3_1.length : Int) then ((some (x3_1.take (x7_3 : Int).toNat : List (List Int))).bind fun y210 => (if y207.length + y210.length < 5864062014805 then ((some (y207 ++ y210 : List (List Int))).bind fun y215 => ((some (([x5_2] : List (List Int)) : List (List Int))).bind fun y218 => (if y215.length + y218.length < 5864062014805 then ((some (y215 ++ y218 : List (List Int))).bind fun y221 => ((some (x3_1.drop (x7_3 : Int).toNat : List (List Int))).bind fun y224 => (if y221.length + y224.length < 5864062014805 then (spec_AllComplete.l0 k3 (y221 ++ y224) (wrap64 (x4_1 + 1)) a0_0 l0_1) else (none)))) else (none)))) else (none))) else (none)) else (none))))) else (none)) else (none)) = some r := by first | (rw [hji33] at H; exact H) | (simp only [hji33] at H ⊢; exact H)
             have hji33w : (IntKind.i64.wrap (x7_3 - 1)) = ji33 := (Zk _).trans hji33
             by_cases c34 : 0 ≤ (ji33)
             ·rw [if_pos c34] at H
              have c34b0 : decide (0 ≤ (ji33)) = true := decide_eq_true c34
              clear c34
              by_cases c35 : (ji33) < (x3_1.length : Int)
              ·rw [if_pos c35] at H
               have c35b0 : decide ((ji33) < (x3_1.length : Int)) = true := decide_eq_true c35
               clear c35
               replace H := Option.bind_eq_some_iff.mp H
               obtain ⟨t206, A360, H⟩ := H
               replace H : (if t206 = true then (spec_AllComplete.l2 k3 x3_1 x4_1 x5_2 ji33 a0_0 l0_1) else ((some (([] : List (List Int)) : List (List Int))).bind fun y207 => (if 0 ≤ x7_3 then (if x7_3 ≤ (x3_1.length : Int) then ((some (x3_1.take (x7_3 : Int).toNat : List (List Int))).bind fun y210 => (if y207.length + y210.length < 5864062014805 then ((some (y207 ++ y210 : List (List Int))).bind fun y215 => ((some (([x5_2] : List (List Int)) : List (List Int))).bind fun y218 => (if y215.length + y218.length < 5864062014805 then ((some (y215 ++ y218 : List (List Int))).bind fun y221 => ((some (x3_1.drop (x7_3 : Int).toNat : List (List Int))).bind fun y224 => (if y221.length + y224.length < 5864062014805 then (spec_AllComplete.l0 k3 (y221 ++ y224) (wrap64 (x4_1 + 1)) a0_0 l0_1) else (none)))) else (none)))) else (none))) else (none)) else (none)))) = some r := H
               have A36 := Aside0.mk A360
               clear A360
               by_cases c37 : t206 = true
               ·subst c37
                have H1 : (spec_AllComplete.l2 k3 x3_1 x4_1 x5_2 ji33 a0_0 l0_1) = some r := by rw [if_pos rfl] at H; exact H
                clear H
                have H := H1
                clear H1
                have H' := Aside0.mk H
                clear H
                have p205 : 0 ≤ ((ji33) : Int) := of_decide_eq_true as_
                have q205 : (ji33) < (x3_1.length : Int) := of_decide_eq_true as_
                obtain ⟨ad205, A205_0, c205_0, e205, hx205_0, hl205_0, hi205_0⟩ := at_L1 (Kd.N_reads' HO_3.out).2.2 (ji33) p205 q205
                cases e205
                obtain ⟨ce205, hce205, hMe205, hcc205⟩ := Kd.N_get HO_3.out [] (ji33) p205 (by first | exact q205 | exact of_decide_eq_true as_ | (have e_ := (Kd.N_reads' HO_3.out).1; omega))
                obtain ⟨ua205_0, uc205_0, rfl, ul205_0, ge205_0⟩ := Kd.FK_slice_open hMe205
                have hv205_0 := hcc205 0 _ rfl
                rw [Nat.add_zero, show ((Kd.slice 3 (Kd.int .i64))).sz = 1 from rfl, Nat.mul_one] at hv205_0
                replace hv205_0 := Option.some.inj (hv205_0.symm.trans hx205_0)
                injection hv205_0 with hva_ hvn_ hvc_
                rw [hva_] at ge205_0
                rw [hvc_] at ul205_0
                have HL205_0 := Aside0.mk (show Kd.V (Kd.int .i64) 3 _ w.heap.size _ _ (rd_L1 x3_1 (ji33)) from Kd.V_mk ul205_0 ge205_0)
                clear hva_ hvn_ hvc_ ge205_0 ul205_0
                clear hcc205 hce205
                have HR205_0 := Aside0.mk hi205_0
                have HC205_0 := Aside0.mk hl205_0
                clear hi205_0 hl205_0
                replace p205 := eq_true p205
                replace q205 := eq_true q205
                go_wp2_with (first | (go_at_call 78; (with_reducible refine (spec_l7Before.calls k3 _ _ x5_2 _ _ (rd_L1 x3_1 (ji33)) true _ ?side1 ?side2 ?side3 ?side4 A36.out).mono ?_); (case side1 => repeat (first | exact (Zw HO_5.out).2.2 | (with_reducible refine Zv ?_ _) | (with_reducible refine Zt ?_ _) | (with_reducible refine Zy ?_))); (case side2 => exact (Zw HO_5.out).2.1); (case side3 => repeat (first | exact (cf_ HR205_0.out) | (with_reducible refine Zv ?_ _) | (with_reducible refine Zt ?_ _) | (with_reducible refine Zy ?_))); (case side4 => exact HC205_0.out); rintro e w' ⟨rfl, ⟨nd, rfl⟩⟩))
                go_roundg k3
                case measure => have := HK1.out; have := HK2.out; have := HK3.out; omega
                case rel => exact ⟨(ji33), (by first | rfl | (simp; done) | (simp only [← hji33] <;> (first | rfl | simp)) | (simp [*]; done)), H', ⟨by have := HK1.out; have := HK2.out; have := HK3.out; omega⟩, ⟨rN_ HO_3.out⟩, ⟨rR_ HO_5.out⟩, ⟨bk_ BK190.out⟩, ⟨hb_⟩⟩
               ·replace c37 := Bool.eq_false_iff.mpr c37
                subst c37
                have H1 : ((some (([] : List (List Int)) : List (List Int))).bind fun y207 => (if 0 ≤ x7_3 then (if x7_3 ≤ (x3_1.length : Int) then ((some (x3_1.take (x7_3 : Int).toNat : List (List Int))).bind fun y210 => (if y207.length + y210.length < 5864062014805 then ((some (y207 ++ y210 : List (List Int))).bind fun y215 => ((some (([x5_2] : List (List Int)) : List (List Int))).bind fun y218 => (if y215.length + y218.length < 5864062014805 then ((some (y215 ++ y218 : List (List Int))).bind fun y221 => ((some (x3_1.drop (x7_3 : Int).toNat : List (List Int))).bind fun y224 => (if y221.length + y224.length < 5864062014805 then (spec_AllComplete.l0 k3 (y221 ++ y224) (wrap64 (x4_1 + 1)) a0_0 l0_1) else (none)))) else (none)))) else (none))) else (none)) else (none))) = some r := by rw [if_neg (show ¬ (false = true) by decide)] at H; exact H
                clear H
                have H := H1
                clear H1
                obtain ⟨y207, hy207⟩ : ∃ y_ : List (List Int), y_ = (([] : List (List Int))) := ⟨_, rfl⟩
                replace H : (if 0 ≤ x7_3 then (if x7_3 ≤ (x3_1.length : Int) then ((some (x3_1.take (x7_3 : Int).toNat : List (List Int))).bind fun y210 => (if y207.length + y210.length < 5864062014805 then ((some (y207 ++ y210 : List (List Int))).bind fun y215 => ((some (([x5_2] : List (List Int)) : List (List Int))).bind fun y218 => (if y215.length + y218.length < 5864062014805 then ((some (y215 ++ y218 : List (List Int))).bind fun y221 => ((some (x3_1.drop (x7_3 : Int).toNat : List (List Int))).bind fun y224 => (if y221.length + y224.length < 5864062014805 then (spec_AllComplete.l0 k3 (y221 ++ y224) (wrap64 (x4_1 + 1)) a0_0 l0_1) else (none)))) else (none)))) else (none))) else (none)) else (none)) = some r := hy_ hy207 H
                have Ny207 := Aside0.mk hy207
                clear hy207
                by_cases c38 : 0 ≤ x7_3
                ·rw [if_pos c38] at H
                 have c38b0 := eq_true c38
                 have c38b1 : decide (0 ≤ x7_3) = true := decide_eq_true c38
                 clear c38
                 by_cases c39 : x7_3 ≤ (x3_1.length : Int)
                 ·rw [if_pos c39] at H
                  have c39b0 := eq_true c39
                  have c39b1 : decide (x7_3 ≤ (x3_1.length : Int)) = true := decide_eq_true c39
                  clear c39
                  obtain ⟨y210, hy210⟩ : ∃ y_ : List (List Int), y_ = (x3_1.take (x7_3 : Int).toNat) := ⟨_, rfl⟩
                  replace H : (if y207.length + y210.length < 5864062014805 then ((some (y207 ++ y210 : List (List Int))).bind fun y215 => ((some (([x5_2] : List (List Int)) : List (List Int))).bind fun y218 => (if y215.length + y218.length < 5864062014805 then ((some (y215 ++ y218 : List (List Int))).bind fun y221 => ((some (x3_1.drop (x7_3 : Int).toNat : List (List Int))).bind fun y224 => (if y221.length + y224.length < 5864062014805 then (spec_AllComplete.l0 k3 (y221 ++ y224) (wrap64 (x4_1 + 1)) a0_0 l0_1) else (none)))) else (none)))) else (none)) = some r := hy_ hy210 H
                  have Ny210 := Aside0.mk hy210
                  clear hy210
                  by_cases c40 : y207.length + y210.length < 5864062014805
                  ·rw [if_pos c40] at H
                   have LMc40 := Aside0.mk c40
                   clear c40
                   obtain ⟨y215, hy215⟩ : ∃ y_ : List (List Int), y_ = (y207 ++ y210) := ⟨_, rfl⟩
                   replace H : ((some (([x5_2] : List (List Int)) : List (List Int))).bind fun y218 => (if y215.length + y218.length < 5864062014805 then ((some (y215 ++ y218 : List (List Int))).bind fun y221 => ((some (x3_1.drop (x7_3 : Int).toNat : List (List Int))).bind fun y224 => (if y221.length + y224.length < 5864062014805 then (spec_AllComplete.l0 k3 (y221 ++ y224) (wrap64 (x4_1 + 1)) a0_0 l0_1) else (none)))) else (none))) = some r := hy_ hy215 H
                   have Ny215 := Aside0.mk hy215
                   clear hy215
                   obtain ⟨y218, hy218⟩ : ∃ y_ : List (List Int), y_ = (([x5_2] : List (List Int))) := ⟨_, rfl⟩
                   replace H : (if y215.length + y218.length < 5864062014805 then ((some (y215 ++ y218 : List (List Int))).bind fun y221 => ((some (x3_1.drop (x7_3 : Int).toNat : List (List Int))).bind fun y224 => (if y221.length + y224.length < 5864062014805 then (spec_AllComplete.l0 k3 (y221 ++ y224) (wrap64 (x4_1 + 1)) a0_0 l0_1) else (none)))) else (none)) = some r := hy_ hy218 H
                   have Ny218 := Aside0.mk hy218
                   clear hy218
                   by_cases c41 : y215.length + y218.length < 5864062014805
                   ·rw [if_pos c41] at H
                    have LMc41 := Aside0.mk c41
                    clear c41
                    obtain ⟨y221, hy221⟩ : ∃ y_ : List (List Int), y_ = (y215 ++ y218) := ⟨_, rfl⟩
                    replace H : ((some (x3_1.drop (x7_3 : Int).toNat : List (List Int))).bind fun y224 => (if y221.length + y224.length < 5864062014805 then (spec_AllComplete.l0 k3 (y221 ++ y224) (wrap64 (x4_1 + 1)) a0_0 l0_1) else (none))) = some r := hy_ hy221 H
                    have Ny221 := Aside0.mk hy221
                    clear hy221
                    have c42b0 := eq_true (of_decide_eq_true as_ : 0 ≤ x7_3)
                    have c43b0 := eq_true (of_decide_eq_true as_ : x7_3 ≤ (x3_1.length : Int))
                    obtain ⟨y224, hy224⟩ : ∃ y_ : List (List Int), y_ = (x3_1.drop (x7_3 : Int).toNat) := ⟨_, rfl⟩
                    replace H : (if y221.length + y224.length < 5864062014805 then (spec_AllComplete.l0 k3 (y221 ++ y224) (wrap64 (x4_1 + 1)) a0_0 l0_1) else (none)) = some r := hy_ hy224 H
                    have Ny224 := Aside0.mk hy224
                    clear hy224
                    by_cases c44 : y221.length + y224.length < 5864062014805
                    ·rw [if_pos c44] at H
                     have LMc44 := Aside0.mk c44
                     clear c44
                     obtain ⟨y229, hy229⟩ : ∃ y_ : List (List Int), y_ = (y221 ++ y224) := ⟨_, rfl⟩
                     replace H : (spec_AllComplete.l0 k3 y229 (wrap64 (x4_1 + 1)) a0_0 l0_1) = some r := hy_ hy229 H
                     have Ny229 := Aside0.mk hy229
                     clear hy229
                     have H' := Aside0.mk H
                     clear H
                     have p205 : 0 ≤ ((ji33) : Int) := of_decide_eq_true as_
                     have q205 : (ji33) < (x3_1.length : Int) := of_decide_eq_true as_
                     obtain ⟨ad205, A205_0, c205_0, e205, hx205_0, hl205_0, hi205_0⟩ := at_L1 (Kd.N_reads' HO_3.out).2.2 (ji33) p205 q205
                     cases e205
                     obtain ⟨ce205, hce205, hMe205, hcc205⟩ := Kd.N_get HO_3.out [] (ji33) p205 (by first | exact q205 | exact of_decide_eq_true as_ | (have e_ := (Kd.N_reads' HO_3.out).1; omega))
                     obtain ⟨ua205_0, uc205_0, rfl, ul205_0, ge205_0⟩ := Kd.FK_slice_open hMe205
                     have hv205_0 := hcc205 0 _ rfl
                     rw [Nat.add_zero, show ((Kd.slice 3 (Kd.int .i64))).sz = 1 from rfl, Nat.mul_one] at hv205_0
                     replace hv205_0 := Option.some.inj (hv205_0.symm.trans hx205_0)
                     injection hv205_0 with hva_ hvn_ hvc_
                     rw [hva_] at ge205_0
                     rw [hvc_] at ul205_0
                     have HL205_0 := Aside0.mk (show Kd.V (Kd.int .i64) 3 _ w.heap.size _ _ (rd_L1 x3_1 (ji33)) from Kd.V_mk ul205_0 ge205_0)
                     clear hva_ hvn_ hvc_ ge205_0 ul205_0
                     clear hcc205 hce205
                     have HR205_0 := Aside0.mk hi205_0
                     have HC205_0 := Aside0.mk hl205_0
                     clear hi205_0 hl205_0
                     replace p205 := eq_true p205
                     replace q205 := eq_true q205
                     try go_wp2_with (first | (go_at_call 78; (with_reducible refine (spec_l7Before.calls k3 _ _ x5_2 _ _ (rd_L1 x3_1 (ji33)) false _ ?side1 ?side2 ?side3 ?side4 A36.out).mono ?_); (case side1 => repeat (first | exact (Zw HO_5.out).2.2 | (with_reducible refine Zv ?_ _) | (with_reducible refine Zt ?_ _) | (with_reducible refine Zy ?_))); (case side2 => exact (Zw HO_5.out).2.1); (case side3 => repeat (first | exact (cf_ HR205_0.out) | (with_reducible refine Zv ?_ _) | (with_reducible refine Zt ?_ _) | (with_reducible refine Zy ?_))); (case side4 => exact HC205_0.out); rintro e w' ⟨rfl, ⟨nd, rfl⟩⟩))
                     (try (rw [drewN_self wr]; generalize hq_ : World.drewN wr _ = wr; have n0_ : Aside0 (Kd.V (Kd.int .i64) 3 wr w.heap.size (fun k_ => (w.heap.size ≤ k_) ∧ some k_ ≠ (.slice (some ad205) x3_1.length co31 : Value).ownBlock ∧ some k_ ≠ (.slice Ao29 x5_2.length co29 : Value).ownBlock ∧ k_ ≠ gb190) (.slice A205_0 (rd_L1 x3_1 (ji33)).length c205_0) (rd_L1 x3_1 (ji33))) := ⟨by rw [← hq_]; exact (by (with_reducible repeat (first | apply Kd.V_alloc | apply ZA | apply Kd.V_drew)); exact Zz HL205_0.out (fun _ hk => ⟨hk.1.1, ⟨hk.2, ⟨hk.1.2.1, hk.1.2.2⟩⟩⟩))⟩; have n1_ : Aside0 (Kd.N (Kd.slice 3 (Kd.int .i64)) 38 wr w.heap.size (fun k_ => (w.heap.size ≤ k_) ∧ some k_ ≠ (.slice Ao29 x5_2.length co29 : Value).ownBlock ∧ k_ ≠ gb190) (.slice (some ad205) x3_1.length co31) x3_1) := ⟨by rw [← hq_]; exact (rN_ HO_3.out)⟩; have n2_ : Aside0 (Kd.R (Kd.int .i64) 3 wr w.heap.size (fun k_ => (w.heap.size ≤ k_)) (.slice Ao29 x5_2.length co29) x5_2) := ⟨by rw [← hq_]; exact (rR_ HO_5.out)⟩; have n3_ : Aside0 (wr.heap[gb190]? = some (.cells #[.int .i64 a0_0, .slice A0_1 l0_1.length c0_1] 27 (0, 0))) := ⟨by rw [← hq_]; exact (bk_ BK190.out)⟩; have n4_ : Aside0 (Below w.heap.size w wr) := ⟨by rw [← hq_]; exact hb_⟩; have n5_ : Aside0 (Kd.C (Kd.int .i64) wr A205_0 (rd_L1 x3_1 (ji33)).length (rd_L1 x3_1 (ji33))) := ⟨by rw [← hq_]; exact (cf_ HR205_0.out)⟩; clear HL205_0 HO_3 HO_5 BK190 HB HR205_0 hq_; have HL205_0 := n0_; have HO_3 := n1_; have HO_5 := n2_; have BK190 := n3_; have HB := n4_; have HR205_0 := n5_; clear n0_ n1_ n2_ n3_ n4_ n5_))
                     (try (have hcugb190_0 : wr.cell? ⟨gb190, 0, none⟩ = some (.int .i64 a0_0) := (Ze BK190.out 0).trans rfl))
                     (try (have hfugb190_0 := Zd BK190.out 0))
                     (try (have hcugb190_1 : wr.cell? ⟨gb190, 1, none⟩ = some (.slice A0_1 l0_1.length c0_1) := (Ze BK190.out 1).trans rfl))
                     (try (have hfugb190_1 := Zd BK190.out 1))
                     have n0_ := Aside0.mk (Kd.N_drew HO_3.out)
                     have n1_ := Aside0.mk (Kd.R_drew HO_5.out)
                     have n2_ := Aside0.mk (Kd.V_drew HL205_0.out)
                     have n3_ := Aside0.mk (blk_drew BK190.out)
                     have n4_ := Aside0.mk (Zy HR205_0.out)
                     have n5_ := Aside0.mk (below_drew1 HB.out)
                     clear HO_3
                     clear HO_5
                     clear HL205_0
                     clear BK190
                     clear HR205_0
                     clear HB
                     have HO_3 := n0_
                     have HO_5 := n1_
                     have HL205_0 := n2_
                     have BK190 := n3_
                     have HR205_0 := n4_
                     have HB := n5_
                     clear n0_ n1_ n2_ n3_ n4_ n5_
                     have q46 : (x7_3 : Int) ≤ ((x3_1.length : Int) : Int) := of_decide_eq_true as_
                     obtain ⟨i046, hi046, _, hsz46, _⟩ := info_parts info38
                     have hroom46 : x3_1.length ≤ co31 := (Kd.N_reads' HO_3.out).2.1
                     have hC46 : Kd.F (Kd.slice 3 (Kd.int .i64)) _ _ (some ad205) x3_1.length x3_1 := (Kd.V_at (base := w.heap.size) (Kd.N_V HO_3.out)).2.2
                     have hcut46 := cut_to (P := Try.prog) 22 38 .i64 Try.underlying22 hi046 (some ad205) x3_1.length co31 x7_3 (of_decide_eq_true as_) q46 hroom46
                     have hr46 := Kd.F_take (m := (x7_3 : Int).toNat) hC46 (by omega)
                     have hy46 : y210.length = (x7_3 : Int).toNat := (by first | (rw [Ny210.out, List.length_take]; omega) | (rw [Ny210.out, List.length_take, Ny229.out, List.length_set]; omega) | (rw [Ny210.out, List.length_take, Ny224.out, List.length_set]; omega) | (rw [Ny210.out, List.length_take, Ny221.out, List.length_set]; omega) | (rw [Ny210.out, List.length_take, Ny218.out, List.length_set]; omega) | (rw [Ny210.out, List.length_take, Ny215.out, List.length_set]; omega) | (rw [Ny210.out, List.length_take, Ny207.out, List.length_set]; omega) | (rw [Ny210.out, List.length_take, Ny201.out, List.length_set]; omega))
                     rw [← Ny210.out] at hr46
                     rw [← hy46] at hcut46
                     have HO214 := Aside0.mk (show Kd.V (Kd.slice 3 (Kd.int .i64)) 38 _ w.heap.size _ (.slice (some ad205) y210.length co31) y210 from Kd.V_mk (by omega) hr46)
                     have HC214 := Aside0.mk (show y210.length ≤ co31 from by omega)
                     clear hr46 hC46 hroom46 hi046 hsz46
                     have KY46 := Aside0.mk hy46
                     clear hy46
                     replace q46 := eq_true q46
                     have q47 : (x7_3 : Int) ≤ ((x3_1.length : Int) : Int) := of_decide_eq_true as_
                     obtain ⟨i047, hi047, _, hsz47, _⟩ := info_parts info38
                     have hroom47 : x3_1.length ≤ co31 := (Kd.N_reads' HO_3.out).2.1
                     have hC47 : Kd.F (Kd.slice 3 (Kd.int .i64)) _ _ (some ad205) x3_1.length x3_1 := (Kd.V_at (base := w.heap.size) (Kd.N_V HO_3.out)).2.2
                     have q047 : (0 : Int) ≤ (x7_3 : Int) := of_decide_eq_true as_
                     have hcut47 := cut_from (P := Try.prog) 22 38 .i64 Try.underlying22 hi047 1 hsz47 (some ad205) x3_1.length co31 x7_3 q047 q47
                     have hr47 := Kd.F_cut (m := (x7_3 : Int).toNat) (c := co31) hC47 (by omega) hroom47
                     obtain ⟨A47, hA47⟩ : ∃ A1, A1 = (if co31 = (x7_3 : Int).toNat then (some ad205) else ((some ad205) : Option Addr).map (·.add ((x7_3 : Int).toNat * 1))) := ⟨_, rfl⟩
                     obtain ⟨c47, hc47⟩ : ∃ c1, c1 = co31 - (x7_3 : Int).toNat := ⟨_, rfl⟩
                     have hy47 : y224.length = x3_1.length - (x7_3 : Int).toNat := (by rw [Ny224.out, List.length_drop] <;> omega)
                     rw [show (x3_1).drop (x7_3 : Int).toNat = y224 from Ny224.out.symm] at hr47
                     replace hr47 : Kd.F (Kd.slice 3 (Kd.int .i64)) _ _ A47 y224.length y224 := (by rw [hA47]; exact hr47)
                     rw [← hy47, ← hA47, ← hc47] at hcut47
                     have HO228 := Aside0.mk (show Kd.V (Kd.slice 3 (Kd.int .i64)) 38 _ w.heap.size _ (.slice A47 y224.length c47) y224 from Kd.V_mk (by rw [hy47, hc47]; exact Nat.sub_le_sub_right hroom47 _) hr47)
                     have HC228 := Aside0.mk (show y224.length ≤ c47 from by rw [hy47, hc47]; exact Nat.sub_le_sub_right hroom47 _)
                     clear hr47 hC47 hroom47 hi047 hsz47 hc47
                     have KY47 := Aside0.mk hy47
                     have KA47 := Aside0.mk hA47
                     clear hy47 hA47
                     replace q47 := eq_true q47
                     refine start_ (n := 13) (S := fun w' => True) (ds := []) #[O,O,O,O,O,O,O,O,O,O,O,O,O] (by kernel_rfl) rfl rfl trivial (fun hHeld => ?_); refine with_tabW spec_AllComplete.tab17 spec_AllComplete.bits17 (fun HT_ HW_ => ?_)
                     generalize wr.drew = w45 at HO_3 HO_5 HL205_0 BK190 HR205_0 HB HO214 HO228 hHeld ⊢
                     refine Zq (i := 1) (N := some 55) (v := ?_) (a' := ?_) #[O,Y,O,O,O,O,O,O,O,O,O,O,O] rfl rfl (Zp HT_.out (by kernel_rfl)) (fun _ _ _ h => h) (Or.inl ⟨by rfl, ?_⟩) ?_ ?_
                     rotate_left
                     ·intro w'
                      go_simp
                      with_reducible rfl
                     rotate_left
                     ·simp only [Act.put, Za, Zb, Zc, Zk, Zm]
                      rfl
                     refine Zq (i := 2) (N := some 56) (v := ?_) (a' := ?_) #[O,Y,Y,O,O,O,O,O,O,O,O,O,O] rfl rfl (Zp HT_.out (by kernel_rfl)) (fun _ _ _ h => h) (Or.inl ⟨by rfl, ?_⟩) ?_ ?_
                     rotate_left
                     ·intro w'
                      go_simp
                      with_reducible rfl
                     rotate_left
                     ·simp only [Act.put, Za, Zb, Zc, Zk, Zm]
                      rfl
                     refine Zq (i := 3) (N := some 57) (v := ?_) (a' := ?_) #[O,Y,Y,Y,O,O,O,O,O,O,O,O,O] rfl rfl (Zp HT_.out (by kernel_rfl)) (fun _ _ _ h => h) (Or.inl ⟨by rfl, ?_⟩) ?_ ?_
                     rotate_left
                     ·intro w'
                      go_simp
                      with_reducible rfl
                     rotate_left
                     ·simp only [Act.put, Za, Zb, Zc, Zk, Zm]
                      rfl
                     refine Zq (i := 5) (N := some 59) (v := ?_) (a' := ?_) #[O,Y,Y,Y,O,Y,O,O,O,O,O,O,O] rfl rfl (Zp HT_.out (by kernel_rfl)) (fun _ _ _ h => h) (Or.inl ⟨by rfl, ?_⟩) ?_ ?_
                     rotate_left
                     ·intro w'
                      go_simp
                      with_reducible rfl
                     rotate_left
                     ·simp only [Act.put, Za, Zb, Zc, Zk, Zm]
                      rfl
                     refine Zq (i := 8) (N := some 62) (v := ?_) (a' := ?_) #[O,Y,Y,Y,O,Y,O,O,Y,O,O,O,O] rfl rfl (Zp HT_.out (by kernel_rfl)) (fun _ _ _ h => h) (Or.inl ⟨by rfl, ?_⟩) ?_ ?_
                     rotate_left
                     ·intro w'
                      go_simp
                      with_reducible rfl
                     rotate_left
                     ·simp only [Act.put, Za, Zb, Zc, Zk, Zm]
                      rfl
                     refine Zq (i := 9) (N := some 63) (v := ?_) (a' := ?_) #[O,Y,Y,Y,O,Y,O,O,Y,Y,O,O,O] rfl rfl (Zp HT_.out (by kernel_rfl)) (fun _ _ _ h => h) (Or.inl ⟨by rfl, ?_⟩) ?_ ?_
                     rotate_left
                     ·intro w'
                      go_simp
                      with_reducible rfl
                     rotate_left
                     ·simp only [Act.put, Za, Zb, Zc, Zk, Zm]
                      rfl
                     refine Zq (i := 10) (N := some 64) (v := ?_) (a' := ?_) #[O,Y,Y,Y,O,Y,O,O,Y,Y,Y,O,O] rfl rfl (Zp HT_.out (by kernel_rfl)) (fun _ _ _ h => h) (Or.inl ⟨by rfl, ?_⟩) ?_ ?_
                     rotate_left
                     ·intro w'
                      go_simp
                      with_reducible rfl
                     rotate_left
                     ·simp only [Act.put, Za, Zb, Zc, Zk, Zm]
                      rfl
                     refine join_ (σ := Value × Value × Value) 3 #[Y,Y,Y,Y,Y,Y,Y,O,Y,Y,Y,O,O] (fun s_ => [(54, s_.1), (58, s_.2.1), (60, s_.2.2)]) (fun s_ w' => (Kd.V (Kd.int .i64) 3 w' w.heap.size (fun k_ => (w.heap.size ≤ k_) ∧ some k_ ≠ (s_.2.1 : Value).ownBlock ∧ some k_ ≠ (s_.2.2 : Value).ownBlock ∧ some k_ ≠ (.slice (some ad205) x3_1.length co31 : Value).ownBlock ∧ k_ ≠ gb190) (.slice A205_0 (rd_L1 x3_1 (ji33)).length c205_0) (rd_L1 x3_1 (ji33))) ∧ (Kd.V (Kd.slice 3 (Kd.int .i64)) 38 w' w.heap.size (fun k_ => (w.heap.size ≤ k_) ∧ some k_ ≠ (s_.2.1 : Value).ownBlock ∧ some k_ ≠ (s_.2.2 : Value).ownBlock ∧ k_ ≠ gb190) (.slice (some ad205) y210.length co31) y210) ∧ (Kd.N (Kd.slice 3 (Kd.int .i64)) 38 w' w.heap.size (fun k_ => (w.heap.size ≤ k_) ∧ some k_ ≠ (s_.2.2 : Value).ownBlock ∧ k_ ≠ gb190) s_.2.1 y215) ∧ (Kd.N (Kd.slice 3 (Kd.int .i64)) 38 w' w.heap.size (fun k_ => (w.heap.size ≤ k_) ∧ some k_ ≠ (s_.2.1 : Value).ownBlock ∧ some k_ ≠ (.slice (some ad205) x3_1.length co31 : Value).ownBlock ∧ k_ ≠ gb190) s_.2.2 y218) ∧ (Kd.V (Kd.slice 3 (Kd.int .i64)) 38 w' w.heap.size (fun k_ => (w.heap.size ≤ k_) ∧ some k_ ≠ (s_.2.1 : Value).ownBlock ∧ some k_ ≠ (s_.2.2 : Value).ownBlock ∧ k_ ≠ gb190) (.slice A47 y224.length c47) y224) ∧ (Kd.N (Kd.slice 3 (Kd.int .i64)) 38 w' w.heap.size (fun k_ => (w.heap.size ≤ k_) ∧ some k_ ≠ (s_.2.1 : Value).ownBlock ∧ some k_ ≠ (s_.2.2 : Value).ownBlock ∧ k_ ≠ gb190) (.slice (some ad205) x3_1.length co31) x3_1) ∧ (w'.heap[gb190]? = some (.cells #[.int .i64 a0_0, .slice A0_1 l0_1.length c0_1] 27 (0, 0))) ∧ (Below w.heap.size w w')) ?_ ?_
                     rotate_left
                     ·intro hCont
                      refine two_ (i := 0) (j := 6) (Ni := some 54) (Nj := some 60) #[Y,Y,Y,Y,O,Y,O,O,Y,Y,Y,O,O] #[O,Y,Y,Y,O,Y,Y,O,Y,Y,Y,O,O] rfl rfl rfl rfl (two_of HT_.out (by kernel_rfl)) (by decide) (by decide) (fun K hK => ?_) (fun K hK => ?_)
                      ·skip
                       refine Kd.N_lit_step (Kd.slice 3 (Kd.int .i64)) _ 38 ?hg (N' := 54) ?hd (xs := ([] : List (List Int))) (inner := []) (ok := (fun k_ => (w.heap.size ≤ k_) ∧ some k_ ≠ (.slice (some ad205) x3_1.length co31 : Value).ownBlock ∧ some k_ ≠ (.slice Ao29 x5_2.length co29 : Value).ownBlock ∧ k_ ≠ gb190)) (okp := (fun k_ => (w.heap.size ≤ k_) ∧ some k_ ≠ (.slice (some ad205) x3_1.length co31 : Value).ownBlock ∧ some k_ ≠ (.slice Ao29 x5_2.length co29 : Value).ownBlock ∧ k_ ≠ gb190)) ?hr ?hp (fun _ hk => hk) ((show ∀ k_, w45.heap.size ≤ k_ → (fun k_ => (w.heap.size ≤ k_) ∧ some k_ ≠ (.slice (some ad205) x3_1.length co31 : Value).ownBlock ∧ some k_ ≠ (.slice Ao29 x5_2.length co29 : Value).ownBlock ∧ k_ ≠ gb190) k_ from fun k_ hk => ⟨(Nat.le_trans (Zi hb_) hk), Kd.fresh' (Kd.N_lt (rN_ HO_3.out)) k_ hk, Kd.fresh' (Kd.R_lt (rR_ HO_5.out)) k_ hk, Kd.freshB (g := gb190) (o := .cells #[.int .i64 a0_0, .slice A0_1 l0_1.length c0_1] 27 (0, 0)) (bk_ BK190.out) k_ hk⟩) _ (Nat.le_refl _)) (Below.refl _ _) (Nat.le_refl _) (by simp) ?_; (case hd => rfl); (case hg => rfl); (case hr => first | (go_simp; done) | (go_simp; rfl)); (case hp => exact (Reps.none _ _))
                       intro v208 w48 ho49 hb hg_ hnew_
                       clear hg_ hnew_
                       (first | rw [← Ny207.out] at ho49 | (simp only [Int.reduceToNat] at ho49; rw [← Ny207.out] at ho49))
                       have n0_ := Aside0.mk (Kd.N_elder' (rN_ HO_3.out) (Kd.N_base ho49) hb)
                       have n1_ := Aside0.mk (Kd.R_below (rR_ HO_5.out) hb)
                       have n2_ := Aside0.mk (Kd.V_elder' (by (with_reducible repeat (first | apply Kd.V_alloc | apply ZA | apply Kd.V_drew)); exact HL205_0.out) (Kd.N_base ho49) hb)
                       have n3_ := Aside0.mk (Kd.V_elder' (rV_ HO214.out) (Kd.N_base ho49) hb)
                       have n4_ := Aside0.mk (Kd.V_elder' (rV_ HO228.out) (Kd.N_base ho49) hb)
                       have n5_ := Aside0.mk (Kd.N_lower ho49 (Zi hb_))
                       have n6_ := Aside0.mk (Zj (g := gb190) (o := .cells #[.int .i64 a0_0, .slice A0_1 l0_1.length c0_1] 27 (0, 0)) (bk_ BK190.out) hb)
                       have n7_ := Aside0.mk (Kd.C_below (cf_ HR205_0.out) hb)
                       have n8_ := Aside0.mk (Zf hb_ hb)
                       clear HO_3
                       clear HO_5
                       clear HL205_0
                       clear HO214
                       clear HO228
                       clear BK190
                       clear HR205_0
                       clear HB
                       have HO_3 := n0_
                       have HO_5 := n1_
                       have HL205_0 := n2_
                       have HO214 := n3_
                       have HO228 := n4_
                       have HO209 := n5_
                       have BK190 := n6_
                       have HR205_0 := n7_
                       have HB := n8_
                       clear n0_ n1_ n2_ n3_ n4_ n5_ n6_ n7_ n8_
                       clear hb ho49
                       refine hK.out _ _ trivial (fun hHeld => ?_)
                       clear hK K
                       refine norm_ (a' := ?_) ?_ ?_
                       rotate_left
                       ·show Act.put _ (some 54) _ = _
                        simp only [Act.put, Za, Zb, Zc, Zk, Zm]
                        rfl
                       refine two_ (i := 4) (j := 6) (Ni := some 58) (Nj := some 60) #[Y,Y,Y,Y,Y,Y,O,O,Y,Y,Y,O,O] #[Y,Y,Y,Y,O,Y,Y,O,Y,Y,Y,O,O] rfl rfl rfl rfl (two_of HT_.out (by kernel_rfl)) (by decide) (by decide) (fun K hK => ?_) (fun K hK => ?_)
                       ·skip
                        refine Kd.N_append_rows_step (Kd.slice 3 (Kd.int .i64)) (w0 := w) w.heap.size (by rfl) (.tmp 54) (.tmp 57) 22 38 (.slice none 0 0) 24 rfl Try.underlying22 info38 rfl (by decide) (by omega) v208 y207 y210 _ _ _ (fun k_ => (w.heap.size ≤ k_) ∧ some k_ ≠ (.slice Ao29 x5_2.length co29 : Value).ownBlock ∧ k_ ≠ gb190) (fun k_ => ((fun k_ => (w.heap.size ≤ k_) ∧ some k_ ≠ (.slice Ao29 x5_2.length co29 : Value).ownBlock ∧ k_ ≠ gb190)) k_ ∧ some k_ ≠ (v208 : Value).ownBlock) rfl rfl ?aO ?aR (fun _ hk => hk) ?aF ?aB ?aS ?aL ?_
                        (case aR => exact (by skip; exact Kd.V_F (Zz (ok' := (fun k_ => ((fun k_ => (w.heap.size ≤ k_) ∧ some k_ ≠ (.slice Ao29 x5_2.length co29 : Value).ownBlock ∧ k_ ≠ gb190)) k_ ∧ some k_ ≠ (v208 : Value).ownBlock)) (HO214.out) (fun k_ hk => ⟨⟨hk.1.1, ⟨hk.1.2.1, hk.1.2.2⟩⟩, hk.2⟩))))
                        (case aB => exact hb_)
                        (case aF => exact (fun k_ hk => ⟨(Nat.le_trans (Zi hb_) hk), Kd.fresh' (Kd.R_lt (rR_ HO_5.out)) k_ hk, Kd.freshB (g := gb190) (o := .cells #[.int .i64 a0_0, .slice A0_1 l0_1.length c0_1] 27 (0, 0)) (bk_ BK190.out) k_ hk⟩))
                        (case aO => exact (by (with_reducible repeat (first | apply ZD | apply ZC | apply Kd.N_drew)); exact ZB HO209.out (fun _ hk => ⟨hk.1, ⟨hk.2.2.1, hk.2.2.2⟩⟩)))
                        (case aS => exact (Zi hb_))
                        (case aL => have := LMc40.out; omega)
                        intro v216 w50 ho hb hg hat
                        rw [← Ny215.out] at ho
                        have n0_ := Aside0.mk (Kd.N_afterv (ok := (fun k_ => (w.heap.size ≤ k_) ∧ some k_ ≠ (.slice Ao29 x5_2.length co29 : Value).ownBlock ∧ k_ ≠ gb190)) (rN_ HO_3.out) hg hat)
                        have n1_ := Aside0.mk (Kd.R_over' (rR_ HO_5.out) (Kd.N_typed (rN_ HO209.out)) (by decide) hg)
                        have n2_ := Aside0.mk (blk_grown (g := gb190) (o := .cells #[.int .i64 a0_0, .slice A0_1 l0_1.length c0_1] 27 (0, 0)) (bk_ BK190.out) hg (Kd.N_ne HO209.out BK190.out (by decide)))
                        have n3_ := Aside0.mk (Kd.V_afterv (ok := (fun k_ => (w.heap.size ≤ k_) ∧ some k_ ≠ (.slice (some ad205) x3_1.length co31 : Value).ownBlock ∧ some k_ ≠ (.slice Ao29 x5_2.length co29 : Value).ownBlock ∧ k_ ≠ gb190)) (by (with_reducible repeat (first | apply Kd.V_alloc | apply ZA | apply Kd.V_drew)); exact Zz HL205_0.out (fun _ hk => by ((repeat' apply And.intro) <;> (first | exact hk.1 | exact hk.2 | exact hk.1.1 | exact hk.1.2 | exact hk.2.1 | exact hk.2.2 | exact hk.1.1.1 | exact hk.1.1.2 | exact hk.1.2.1 | exact hk.1.2.2 | exact hk.2.1.1 | exact hk.2.1.2 | exact hk.2.2.1 | exact hk.2.2.2 | exact hk.1.1.1.1 | exact hk.1.1.1.2 | exact hk.1.1.2.1 | exact hk.1.1.2.2 | exact hk.1.2.1.1 | exact hk.1.2.1.2 | exact hk.1.2.2.1 | exact hk.1.2.2.2 | exact hk.2.1.1.1 | exact hk.2.1.1.2 | exact hk.2.1.2.1 | exact hk.2.1.2.2 | exact hk.2.2.1.1 | exact hk.2.2.1.2 | exact hk.2.2.2.1 | exact hk.2.2.2.2 | exact hk.1.1.1.1.1 | exact hk.1.1.1.1.2 | exact hk.1.1.1.2.1 | exact hk.1.1.1.2.2 | exact hk.1.1.2.1.1 | exact hk.1.1.2.1.2 | exact hk.1.1.2.2.1 | exact hk.1.1.2.2.2 | exact hk.1.2.1.1.1 | exact hk.1.2.1.1.2 | exact hk.1.2.1.2.1 | exact hk.1.2.1.2.2 | exact hk.1.2.2.1.1 | exact hk.1.2.2.1.2 | exact hk.1.2.2.2.1 | exact hk.1.2.2.2.2 | exact hk.2.1.1.1.1 | exact hk.2.1.1.1.2 | exact hk.2.1.1.2.1 | exact hk.2.1.1.2.2 | exact hk.2.1.2.1.1 | exact hk.2.1.2.1.2 | exact hk.2.1.2.2.1 | exact hk.2.1.2.2.2 | exact hk.2.2.1.1.1 | exact hk.2.2.1.1.2 | exact hk.2.2.1.2.1 | exact hk.2.2.1.2.2 | exact hk.2.2.2.1.1 | exact hk.2.2.2.1.2 | exact hk.2.2.2.2.1 | exact hk.2.2.2.2.2)))) hg hat)
                        have n4_ := Aside0.mk (Kd.V_afterv (ok := (fun k_ => (w.heap.size ≤ k_) ∧ some k_ ≠ (.slice Ao29 x5_2.length co29 : Value).ownBlock ∧ k_ ≠ gb190)) (rV_ HO214.out) hg hat)
                        have n5_ := Aside0.mk (Kd.V_afterv (ok := (fun k_ => (w.heap.size ≤ k_) ∧ some k_ ≠ (.slice Ao29 x5_2.length co29 : Value).ownBlock ∧ k_ ≠ gb190)) (rV_ HO228.out) hg hat)
                        have n6_ := Aside0.mk (hb)
                        have n7_ := Aside0.mk (ho)
                        clear HO_3
                        clear HO_5
                        clear BK190
                        clear HL205_0
                        clear HO214
                        clear HO228
                        clear HB
                        clear HO209
                        have HO_3 := n0_
                        have HO_5 := n1_
                        have BK190 := n2_
                        have HL205_0 := n3_
                        have HO214 := n4_
                        have HO228 := n5_
                        have HB := n6_
                        have HO217 := n7_
                        clear n0_ n1_ n2_ n3_ n4_ n5_ n6_ n7_
                        clear ho hb hg hat
                        refine hK.out _ _ trivial (fun hHeld => ?_)
                        clear hK K
                        refine norm_ (a' := ?_) ?_ ?_
                        rotate_left
                        ·show Act.put _ (some 58) _ = _
                         simp only [Act.put, Za, Zb, Zc, Zk, Zm]
                         rfl
                        refine one_ (i := 6) (N := some 60) #[Y,Y,Y,Y,Y,Y,Y,O,Y,Y,Y,O,O] rfl rfl (one_of HT_.out (by kernel_rfl)) (by decide) (fun K hK => ?_)
                        refine Kd.N_lit_step (Kd.slice 3 (Kd.int .i64)) _ 38 ?hg (N' := 60) ?hd (xs := ([x5_2] : List (List Int))) (inner := [.slice Ao29 x5_2.length co29]) (ok := (fun k_ => (w.heap.size ≤ k_) ∧ some k_ ≠ (.slice (some ad205) x3_1.length co31 : Value).ownBlock ∧ some k_ ≠ (v216 : Value).ownBlock ∧ k_ ≠ gb190)) (okp := (fun k_ => (w.heap.size ≤ k_) ∧ some k_ ≠ (.slice (some ad205) x3_1.length co31 : Value).ownBlock ∧ some k_ ≠ (v216 : Value).ownBlock ∧ k_ ≠ gb190)) ?hr ?hp (fun _ hk => hk) ((show ∀ k_, w50.heap.size ≤ k_ → (fun k_ => (w.heap.size ≤ k_) ∧ some k_ ≠ (.slice (some ad205) x3_1.length co31 : Value).ownBlock ∧ some k_ ≠ (v216 : Value).ownBlock ∧ k_ ≠ gb190) k_ from fun k_ hk => ⟨(Nat.le_trans (Zi hb_) hk), Kd.fresh' (Kd.N_lt (rN_ HO_3.out)) k_ hk, Kd.fresh' (Kd.N_lt (rN_ HO217.out)) k_ hk, Kd.freshB (g := gb190) (o := .cells #[.int .i64 a0_0, .slice A0_1 l0_1.length c0_1] 27 (0, 0)) (bk_ BK190.out) k_ hk⟩) _ (Nat.le_refl _)) (Below.refl _ _) (Nat.le_refl _) (by simp) ?_; (case hd => rfl); (case hg => rfl); (case hr => first | (go_simp; done) | (go_simp; rfl)); (case hp => exact (Reps.one (show Kd.FK (Kd.slice 3 (Kd.int .i64)) _ _ x5_2 [.slice Ao29 x5_2.length co29] from (Kd.FK_slice_mk (Zw (Kd.R_mono (ok' := (fun k_ => (w.heap.size ≤ k_) ∧ some k_ ≠ (.slice (some ad205) x3_1.length co31 : Value).ownBlock ∧ some k_ ≠ (v216 : Value).ownBlock ∧ k_ ≠ gb190)) (Kd.R_types (Kd.R_apart' (Kd.R_apart' (HO_5.out) (Kd.N_typed HO_3.out) (by decide)) (Kd.N_typed HO217.out) (by decide)) BK190.out (by decide)) (fun k_ hk => ⟨hk.1.1.1, ⟨hk.1.1.2, ⟨hk.1.2, hk.2⟩⟩⟩))).2.1 (Kd.R_F (Kd.R_mono (ok' := (fun k_ => (w.heap.size ≤ k_) ∧ some k_ ≠ (.slice (some ad205) x3_1.length co31 : Value).ownBlock ∧ some k_ ≠ (v216 : Value).ownBlock ∧ k_ ≠ gb190)) (Kd.R_types (Kd.R_apart' (Kd.R_apart' (HO_5.out) (Kd.N_typed HO_3.out) (by decide)) (Kd.N_typed HO217.out) (by decide)) BK190.out (by decide)) (fun k_ hk => ⟨hk.1.1.1, ⟨hk.1.1.2, ⟨hk.1.2, hk.2⟩⟩⟩))))) (Reps.none _ _)))
                        intro v219 w51 ho52 hb hg_ hnew_
                        clear hg_ hnew_
                        (first | rw [← Ny218.out] at ho52 | (simp only [Int.reduceToNat] at ho52; rw [← Ny218.out] at ho52))
                        have n0_ := Aside0.mk (Kd.N_elder' (rN_ HO_3.out) (Kd.N_base ho52) hb)
                        have n1_ := Aside0.mk (Kd.V_elder' (by (with_reducible repeat (first | apply Kd.V_alloc | apply ZA | apply Kd.V_drew)); exact HL205_0.out) (Kd.N_base ho52) hb)
                        have n2_ := Aside0.mk (Kd.V_elder' (rV_ HO214.out) (Kd.N_base ho52) hb)
                        have n3_ := Aside0.mk (Kd.V_elder' (rV_ HO228.out) (Kd.N_base ho52) hb)
                        have n4_ := Aside0.mk (Kd.N_elder' (rN_ HO217.out) (Kd.N_base ho52) hb)
                        have n5_ := Aside0.mk (Kd.N_lower ho52 (Zi hb_))
                        have n6_ := Aside0.mk (Zj (g := gb190) (o := .cells #[.int .i64 a0_0, .slice A0_1 l0_1.length c0_1] 27 (0, 0)) (bk_ BK190.out) hb)
                        have n7_ := Aside0.mk (Zf hb_ hb)
                        clear HO_3
                        clear HL205_0
                        clear HO214
                        clear HO228
                        clear HO217
                        clear BK190
                        clear HB
                        clear HO_5
                        have HO_3 := n0_
                        have HL205_0 := n1_
                        have HO214 := n2_
                        have HO228 := n3_
                        have HO217 := n4_
                        have HO220 := n5_
                        have BK190 := n6_
                        have HB := n7_
                        clear n0_ n1_ n2_ n3_ n4_ n5_ n6_ n7_
                        clear hb ho52
                        refine hK.out _ _ trivial (fun hHeld => ?_)
                        clear hK K
                        refine norm_ (a' := ?_) ?_ ?_
                        rotate_left
                        ·show Act.put _ (some 60) _ = _
                         simp only [Act.put, Za, Zb, Zc, Zk, Zm]
                         rfl
                        exact norm_ (by simp only [putAll, Act.put, Za, Zb, Zc]) (hCont (v208, v216, v219) _ ⟨(by (with_reducible repeat (first | apply Kd.V_alloc | apply ZA | apply Kd.V_drew)); exact Zz HL205_0.out (fun _ hk => ⟨hk.1.1.1, ⟨hk.1.2, ⟨hk.2, ⟨hk.1.1.2.1, hk.1.1.2.2.2⟩⟩⟩⟩)), (by (with_reducible repeat (first | apply Kd.V_alloc | apply ZA | apply Kd.V_drew)); exact Zz HO214.out (fun _ hk => ⟨hk.1.1.1, ⟨hk.1.2, ⟨hk.2, hk.1.1.2.2⟩⟩⟩)), (by (with_reducible repeat (first | apply ZD | apply ZC | apply Kd.N_drew)); exact ZB HO217.out (fun _ hk => ⟨hk.1.1, ⟨hk.2, hk.1.2.2⟩⟩)), (by (with_reducible repeat (first | apply ZD | apply ZC | apply Kd.N_drew)); exact ZB HO220.out (fun _ hk => ⟨hk.1, ⟨hk.2.2.1, ⟨hk.2.1, hk.2.2.2⟩⟩⟩)), (by (with_reducible repeat (first | apply Kd.V_alloc | apply ZA | apply Kd.V_drew)); exact Zz HO228.out (fun _ hk => ⟨hk.1.1.1, ⟨hk.1.2, ⟨hk.2, hk.1.1.2.2⟩⟩⟩)), (by (with_reducible repeat (first | apply ZD | apply ZC | apply Kd.N_drew)); exact ZB HO_3.out (fun _ hk => ⟨hk.1.1.1, ⟨hk.1.2, ⟨hk.2, hk.1.1.2.2⟩⟩⟩)), (bk_ BK190.out), hb_⟩)
                       ·skip
                        refine Kd.N_lit_step (Kd.slice 3 (Kd.int .i64)) _ 38 ?hg (N' := 60) ?hd (xs := ([x5_2] : List (List Int))) (inner := [.slice Ao29 x5_2.length co29]) (ok := (fun k_ => (w.heap.size ≤ k_) ∧ some k_ ≠ (.slice (some ad205) x3_1.length co31 : Value).ownBlock ∧ some k_ ≠ (v208 : Value).ownBlock ∧ k_ ≠ gb190)) (okp := (fun k_ => (w.heap.size ≤ k_) ∧ some k_ ≠ (.slice (some ad205) x3_1.length co31 : Value).ownBlock ∧ some k_ ≠ (v208 : Value).ownBlock ∧ k_ ≠ gb190)) ?hr ?hp (fun _ hk => hk) ((show ∀ k_, w48.heap.size ≤ k_ → (fun k_ => (w.heap.size ≤ k_) ∧ some k_ ≠ (.slice (some ad205) x3_1.length co31 : Value).ownBlock ∧ some k_ ≠ (v208 : Value).ownBlock ∧ k_ ≠ gb190) k_ from fun k_ hk => ⟨(Nat.le_trans (Zi hb_) hk), Kd.fresh' (Kd.N_lt (rN_ HO_3.out)) k_ hk, Kd.fresh' (Kd.N_lt (rN_ HO209.out)) k_ hk, Kd.freshB (g := gb190) (o := .cells #[.int .i64 a0_0, .slice A0_1 l0_1.length c0_1] 27 (0, 0)) (bk_ BK190.out) k_ hk⟩) _ (Nat.le_refl _)) (Below.refl _ _) (Nat.le_refl _) (by simp) ?_; (case hd => rfl); (case hg => rfl); (case hr => first | (go_simp; done) | (go_simp; rfl)); (case hp => exact (Reps.one (show Kd.FK (Kd.slice 3 (Kd.int .i64)) _ _ x5_2 [.slice Ao29 x5_2.length co29] from (Kd.FK_slice_mk (Zw (Kd.R_mono (ok' := (fun k_ => (w.heap.size ≤ k_) ∧ some k_ ≠ (.slice (some ad205) x3_1.length co31 : Value).ownBlock ∧ some k_ ≠ (v208 : Value).ownBlock ∧ k_ ≠ gb190)) (Kd.R_types (Kd.R_apart' (Kd.R_apart' (HO_5.out) (Kd.N_typed HO_3.out) (by decide)) (Kd.N_typed HO209.out) (by decide)) BK190.out (by decide)) (fun k_ hk => ⟨hk.1.1.1, ⟨hk.1.1.2, ⟨hk.1.2, hk.2⟩⟩⟩))).2.1 (Kd.R_F (Kd.R_mono (ok' := (fun k_ => (w.heap.size ≤ k_) ∧ some k_ ≠ (.slice (some ad205) x3_1.length co31 : Value).ownBlock ∧ some k_ ≠ (v208 : Value).ownBlock ∧ k_ ≠ gb190)) (Kd.R_types (Kd.R_apart' (Kd.R_apart' (HO_5.out) (Kd.N_typed HO_3.out) (by decide)) (Kd.N_typed HO209.out) (by decide)) BK190.out (by decide)) (fun k_ hk => ⟨hk.1.1.1, ⟨hk.1.1.2, ⟨hk.1.2, hk.2⟩⟩⟩))))) (Reps.none _ _)))
                        intro v219 w50 ho51 hb hg_ hnew_
                        clear hg_ hnew_
                        (first | rw [← Ny218.out] at ho51 | (simp only [Int.reduceToNat] at ho51; rw [← Ny218.out] at ho51))
                        have n0_ := Aside0.mk (Kd.N_elder' (rN_ HO_3.out) (Kd.N_base ho51) hb)
                        have n1_ := Aside0.mk (Kd.V_elder' (by (with_reducible repeat (first | apply Kd.V_alloc | apply ZA | apply Kd.V_drew)); exact HL205_0.out) (Kd.N_base ho51) hb)
                        have n2_ := Aside0.mk (Kd.V_elder' (rV_ HO214.out) (Kd.N_base ho51) hb)
                        have n3_ := Aside0.mk (Kd.V_elder' (rV_ HO228.out) (Kd.N_base ho51) hb)
                        have n4_ := Aside0.mk (Kd.N_elder' (rN_ HO209.out) (Kd.N_base ho51) hb)
                        have n5_ := Aside0.mk (Kd.N_lower ho51 (Zi hb_))
                        have n6_ := Aside0.mk (Zj (g := gb190) (o := .cells #[.int .i64 a0_0, .slice A0_1 l0_1.length c0_1] 27 (0, 0)) (bk_ BK190.out) hb)
                        have n7_ := Aside0.mk (Kd.C_below (cf_ HR205_0.out) hb)
                        have n8_ := Aside0.mk (Zf hb_ hb)
                        clear HO_3
                        clear HL205_0
                        clear HO214
                        clear HO228
                        clear HO209
                        clear BK190
                        clear HR205_0
                        clear HB
                        clear HO_5
                        have HO_3 := n0_
                        have HL205_0 := n1_
                        have HO214 := n2_
                        have HO228 := n3_
                        have HO209 := n4_
                        have HO220 := n5_
                        have BK190 := n6_
                        have HR205_0 := n7_
                        have HB := n8_
                        clear n0_ n1_ n2_ n3_ n4_ n5_ n6_ n7_ n8_
                        clear hb ho51
                        refine hK.out _ _ trivial (fun hHeld => ?_)
                        clear hK K
                        refine norm_ (a' := ?_) ?_ ?_
                        rotate_left
                        ·show Act.put _ (some 60) _ = _
                         simp only [Act.put, Za, Zb, Zc, Zk, Zm]
                         rfl
                        refine one_ (i := 4) (N := some 58) #[Y,Y,Y,Y,Y,Y,Y,O,Y,Y,Y,O,O] rfl rfl (one_of HT_.out (by kernel_rfl)) (by decide) (fun K hK => ?_)
                        refine Kd.N_append_rows_step (Kd.slice 3 (Kd.int .i64)) (w0 := w) w.heap.size (by rfl) (.tmp 54) (.tmp 57) 22 38 (.slice none 0 0) 24 rfl Try.underlying22 info38 rfl (by decide) (by omega) v208 y207 y210 _ _ _ (fun k_ => (w.heap.size ≤ k_) ∧ some k_ ≠ (v219 : Value).ownBlock ∧ k_ ≠ gb190) (fun k_ => ((fun k_ => (w.heap.size ≤ k_) ∧ some k_ ≠ (v219 : Value).ownBlock ∧ k_ ≠ gb190)) k_ ∧ some k_ ≠ (v208 : Value).ownBlock) rfl rfl ?aO ?aR (fun _ hk => hk) ?aF ?aB ?aS ?aL ?_
                        (case aR => exact (by skip; exact Kd.V_F (Zz (ok' := (fun k_ => ((fun k_ => (w.heap.size ≤ k_) ∧ some k_ ≠ (v219 : Value).ownBlock ∧ k_ ≠ gb190)) k_ ∧ some k_ ≠ (v208 : Value).ownBlock)) (HO214.out) (fun k_ hk => ⟨⟨hk.1.1.1, ⟨hk.2, hk.1.1.2.2⟩⟩, hk.1.2⟩))))
                        (case aB => exact hb_)
                        (case aF => exact (fun k_ hk => ⟨(Nat.le_trans (Zi hb_) hk), Kd.fresh' (Kd.N_lt (rN_ HO220.out)) k_ hk, Kd.freshB (g := gb190) (o := .cells #[.int .i64 a0_0, .slice A0_1 l0_1.length c0_1] 27 (0, 0)) (bk_ BK190.out) k_ hk⟩))
                        (case aO => exact (by (with_reducible repeat (first | apply ZD | apply ZC | apply Kd.N_drew)); exact ZB HO209.out (fun _ hk => ⟨hk.1.1, ⟨hk.2, hk.1.2.2.2⟩⟩)))
                        (case aS => exact (Zi hb_))
                        (case aL => have := LMc40.out; omega)
                        intro v216 w52 ho hb hg hat
                        rw [← Ny215.out] at ho
                        have n0_ := Aside0.mk (Kd.N_afterv (ok := (fun k_ => (w.heap.size ≤ k_) ∧ some k_ ≠ (v219 : Value).ownBlock ∧ k_ ≠ gb190)) (by (with_reducible repeat (first | apply ZD | apply ZC | apply Kd.N_drew)); exact ZB HO_3.out (fun _ hk => ⟨⟨hk.1.1.1, ⟨hk.2, hk.1.1.2.2⟩⟩, hk.1.2⟩)) hg hat)
                        have n1_ := Aside0.mk (blk_grown (g := gb190) (o := .cells #[.int .i64 a0_0, .slice A0_1 l0_1.length c0_1] 27 (0, 0)) (bk_ BK190.out) hg (Kd.N_ne HO209.out BK190.out (by decide)))
                        have n2_ := Aside0.mk (Kd.V_afterv (ok := (fun k_ => (w.heap.size ≤ k_) ∧ some k_ ≠ (.slice (some ad205) x3_1.length co31 : Value).ownBlock ∧ some k_ ≠ (v219 : Value).ownBlock ∧ k_ ≠ gb190)) (by (with_reducible repeat (first | apply Kd.V_alloc | apply ZA | apply Kd.V_drew)); exact Zz HL205_0.out (fun _ hk => by ((repeat' apply And.intro) <;> (first | exact hk.1 | exact hk.2 | exact hk.1.1 | exact hk.1.2 | exact hk.2.1 | exact hk.2.2 | exact hk.1.1.1 | exact hk.1.1.2 | exact hk.1.2.1 | exact hk.1.2.2 | exact hk.2.1.1 | exact hk.2.1.2 | exact hk.2.2.1 | exact hk.2.2.2 | exact hk.1.1.1.1 | exact hk.1.1.1.2 | exact hk.1.1.2.1 | exact hk.1.1.2.2 | exact hk.1.2.1.1 | exact hk.1.2.1.2 | exact hk.1.2.2.1 | exact hk.1.2.2.2 | exact hk.2.1.1.1 | exact hk.2.1.1.2 | exact hk.2.1.2.1 | exact hk.2.1.2.2 | exact hk.2.2.1.1 | exact hk.2.2.1.2 | exact hk.2.2.2.1 | exact hk.2.2.2.2 | exact hk.1.1.1.1.1 | exact hk.1.1.1.1.2 | exact hk.1.1.1.2.1 | exact hk.1.1.1.2.2 | exact hk.1.1.2.1.1 | exact hk.1.1.2.1.2 | exact hk.1.1.2.2.1 | exact hk.1.1.2.2.2 | exact hk.1.2.1.1.1 | exact hk.1.2.1.1.2 | exact hk.1.2.1.2.1 | exact hk.1.2.1.2.2 | exact hk.1.2.2.1.1 | exact hk.1.2.2.1.2 | exact hk.1.2.2.2.1 | exact hk.1.2.2.2.2 | exact hk.2.1.1.1.1 | exact hk.2.1.1.1.2 | exact hk.2.1.1.2.1 | exact hk.2.1.1.2.2 | exact hk.2.1.2.1.1 | exact hk.2.1.2.1.2 | exact hk.2.1.2.2.1 | exact hk.2.1.2.2.2 | exact hk.2.2.1.1.1 | exact hk.2.2.1.1.2 | exact hk.2.2.1.2.1 | exact hk.2.2.1.2.2 | exact hk.2.2.2.1.1 | exact hk.2.2.2.1.2 | exact hk.2.2.2.2.1 | exact hk.2.2.2.2.2)))) hg hat)
                        have n3_ := Aside0.mk (Kd.V_afterv (ok := (fun k_ => (w.heap.size ≤ k_) ∧ some k_ ≠ (v219 : Value).ownBlock ∧ k_ ≠ gb190)) (by (with_reducible repeat (first | apply Kd.V_alloc | apply ZA | apply Kd.V_drew)); exact Zz HO214.out (fun _ hk => ⟨⟨hk.1.1.1, ⟨hk.2, hk.1.1.2.2⟩⟩, hk.1.2⟩)) hg hat)
                        have n4_ := Aside0.mk (Kd.V_afterv (ok := (fun k_ => (w.heap.size ≤ k_) ∧ some k_ ≠ (v219 : Value).ownBlock ∧ k_ ≠ gb190)) (by (with_reducible repeat (first | apply Kd.V_alloc | apply ZA | apply Kd.V_drew)); exact Zz HO228.out (fun _ hk => ⟨⟨hk.1.1.1, ⟨hk.2, hk.1.1.2.2⟩⟩, hk.1.2⟩)) hg hat)
                        have n5_ := Aside0.mk (Kd.N_afterv (ok := (fun k_ => (w.heap.size ≤ k_) ∧ some k_ ≠ (.slice (some ad205) x3_1.length co31 : Value).ownBlock ∧ k_ ≠ gb190)) (by (with_reducible repeat (first | apply ZD | apply ZC | apply Kd.N_drew)); exact ZB HO220.out (fun _ hk => ⟨⟨hk.1, ⟨hk.2.1, hk.2.2.2⟩⟩, hk.2.2.1⟩)) hg hat)
                        have n6_ := Aside0.mk (hb)
                        have n7_ := Aside0.mk (ho)
                        clear HO_3
                        clear BK190
                        clear HL205_0
                        clear HO214
                        clear HO228
                        clear HO220
                        clear HB
                        clear HO209
                        have HO_3 := n0_
                        have BK190 := n1_
                        have HL205_0 := n2_
                        have HO214 := n3_
                        have HO228 := n4_
                        have HO220 := n5_
                        have HB := n6_
                        have HO217 := n7_
                        clear n0_ n1_ n2_ n3_ n4_ n5_ n6_ n7_
                        clear ho hb hg hat
                        refine hK.out _ _ trivial (fun hHeld => ?_)
                        clear hK K
                        refine norm_ (a' := ?_) ?_ ?_
                        rotate_left
                        ·show Act.put _ (some 58) _ = _
                         simp only [Act.put, Za, Zb, Zc, Zk, Zm]
                         rfl
                        exact norm_ (by simp only [putAll, Act.put, Za, Zb, Zc]) (hCont (v208, v216, v219) _ ⟨(by (with_reducible repeat (first | apply Kd.V_alloc | apply ZA | apply Kd.V_drew)); exact Zz HL205_0.out (fun _ hk => ⟨hk.1.1, ⟨hk.2, ⟨hk.1.2.2.1, ⟨hk.1.2.1, hk.1.2.2.2⟩⟩⟩⟩)), (by (with_reducible repeat (first | apply Kd.V_alloc | apply ZA | apply Kd.V_drew)); exact Zz HO214.out (fun _ hk => ⟨hk.1.1, ⟨hk.2, ⟨hk.1.2.1, hk.1.2.2⟩⟩⟩)), (rN_ HO217.out), (by (with_reducible repeat (first | apply ZD | apply ZC | apply Kd.N_drew)); exact ZB HO220.out (fun _ hk => ⟨hk.1.1, ⟨hk.2, ⟨hk.1.2.1, hk.1.2.2⟩⟩⟩)), (by (with_reducible repeat (first | apply Kd.V_alloc | apply ZA | apply Kd.V_drew)); exact Zz HO228.out (fun _ hk => ⟨hk.1.1, ⟨hk.2, ⟨hk.1.2.1, hk.1.2.2⟩⟩⟩)), (by (with_reducible repeat (first | apply ZD | apply ZC | apply Kd.N_drew)); exact ZB HO_3.out (fun _ hk => ⟨hk.1.1, ⟨hk.2, ⟨hk.1.2.1, hk.1.2.2⟩⟩⟩)), (bk_ BK190.out), hb_⟩)
                      ·skip
                       refine Kd.N_lit_step (Kd.slice 3 (Kd.int .i64)) _ 38 ?hg (N' := 60) ?hd (xs := ([x5_2] : List (List Int))) (inner := [.slice Ao29 x5_2.length co29]) (ok := (fun k_ => (w.heap.size ≤ k_) ∧ some k_ ≠ (.slice (some ad205) x3_1.length co31 : Value).ownBlock ∧ k_ ≠ gb190)) (okp := (fun k_ => (w.heap.size ≤ k_) ∧ some k_ ≠ (.slice (some ad205) x3_1.length co31 : Value).ownBlock ∧ k_ ≠ gb190)) ?hr ?hp (fun _ hk => hk) ((show ∀ k_, w45.heap.size ≤ k_ → (fun k_ => (w.heap.size ≤ k_) ∧ some k_ ≠ (.slice (some ad205) x3_1.length co31 : Value).ownBlock ∧ k_ ≠ gb190) k_ from fun k_ hk => ⟨(Nat.le_trans (Zi hb_) hk), Kd.fresh' (Kd.N_lt (rN_ HO_3.out)) k_ hk, Kd.freshB (g := gb190) (o := .cells #[.int .i64 a0_0, .slice A0_1 l0_1.length c0_1] 27 (0, 0)) (bk_ BK190.out) k_ hk⟩) _ (Nat.le_refl _)) (Below.refl _ _) (Nat.le_refl _) (by simp) ?_; (case hd => rfl); (case hg => rfl); (case hr => first | (go_simp; done) | (go_simp; rfl)); (case hp => exact (Reps.one (show Kd.FK (Kd.slice 3 (Kd.int .i64)) _ _ x5_2 [.slice Ao29 x5_2.length co29] from (Kd.FK_slice_mk (Zw (Kd.R_mono (ok' := (fun k_ => (w.heap.size ≤ k_) ∧ some k_ ≠ (.slice (some ad205) x3_1.length co31 : Value).ownBlock ∧ k_ ≠ gb190)) (Kd.R_types (Kd.R_apart' (HO_5.out) (Kd.N_typed HO_3.out) (by decide)) BK190.out (by decide)) (fun k_ hk => ⟨hk.1.1, ⟨hk.1.2, hk.2⟩⟩))).2.1 (Kd.R_F (Kd.R_mono (ok' := (fun k_ => (w.heap.size ≤ k_) ∧ some k_ ≠ (.slice (some ad205) x3_1.length co31 : Value).ownBlock ∧ k_ ≠ gb190)) (Kd.R_types (Kd.R_apart' (HO_5.out) (Kd.N_typed HO_3.out) (by decide)) BK190.out (by decide)) (fun k_ hk => ⟨hk.1.1, ⟨hk.1.2, hk.2⟩⟩))))) (Reps.none _ _)))
                       intro v219 w48 ho49 hb hg_ hnew_
                       clear hg_ hnew_
                       (first | rw [← Ny218.out] at ho49 | (simp only [Int.reduceToNat] at ho49; rw [← Ny218.out] at ho49))
                       have n0_ := Aside0.mk (Kd.N_elder' (rN_ HO_3.out) (Kd.N_base ho49) hb)
                       have n1_ := Aside0.mk (Kd.V_elder' (by (with_reducible repeat (first | apply Kd.V_alloc | apply ZA | apply Kd.V_drew)); exact HL205_0.out) (Kd.N_base ho49) hb)
                       have n2_ := Aside0.mk (Kd.V_elder' (rV_ HO214.out) (Kd.N_base ho49) hb)
                       have n3_ := Aside0.mk (Kd.V_elder' (rV_ HO228.out) (Kd.N_base ho49) hb)
                       have n4_ := Aside0.mk (Kd.N_lower ho49 (Zi hb_))
                       have n5_ := Aside0.mk (Zj (g := gb190) (o := .cells #[.int .i64 a0_0, .slice A0_1 l0_1.length c0_1] 27 (0, 0)) (bk_ BK190.out) hb)
                       have n6_ := Aside0.mk (Kd.C_below (cf_ HR205_0.out) hb)
                       have n7_ := Aside0.mk (Zf hb_ hb)
                       clear HO_3
                       clear HL205_0
                       clear HO214
                       clear HO228
                       clear BK190
                       clear HR205_0
                       clear HB
                       clear HO_5
                       have HO_3 := n0_
                       have HL205_0 := n1_
                       have HO214 := n2_
                       have HO228 := n3_
                       have HO220 := n4_
                       have BK190 := n5_
                       have HR205_0 := n6_
                       have HB := n7_
                       clear n0_ n1_ n2_ n3_ n4_ n5_ n6_ n7_
                       clear hb ho49
                       refine hK.out _ _ trivial (fun hHeld => ?_)
                       clear hK K
                       refine norm_ (a' := ?_) ?_ ?_
                       rotate_left
                       ·show Act.put _ (some 60) _ = _
                        simp only [Act.put, Za, Zb, Zc, Zk, Zm]
                        rfl
                       refine one_ (i := 0) (N := some 54) #[Y,Y,Y,Y,O,Y,Y,O,Y,Y,Y,O,O] rfl rfl (one_of HT_.out (by kernel_rfl)) (by decide) (fun K hK => ?_)
                       refine Kd.N_lit_step (Kd.slice 3 (Kd.int .i64)) _ 38 ?hg (N' := 54) ?hd (xs := ([] : List (List Int))) (inner := []) (ok := (fun k_ => (w.heap.size ≤ k_) ∧ some k_ ≠ (.slice (some ad205) x3_1.length co31 : Value).ownBlock ∧ some k_ ≠ (v219 : Value).ownBlock ∧ k_ ≠ gb190)) (okp := (fun k_ => (w.heap.size ≤ k_) ∧ some k_ ≠ (.slice (some ad205) x3_1.length co31 : Value).ownBlock ∧ some k_ ≠ (v219 : Value).ownBlock ∧ k_ ≠ gb190)) ?hr ?hp (fun _ hk => hk) ((show ∀ k_, w48.heap.size ≤ k_ → (fun k_ => (w.heap.size ≤ k_) ∧ some k_ ≠ (.slice (some ad205) x3_1.length co31 : Value).ownBlock ∧ some k_ ≠ (v219 : Value).ownBlock ∧ k_ ≠ gb190) k_ from fun k_ hk => ⟨(Nat.le_trans (Zi hb_) hk), Kd.fresh' (Kd.N_lt (rN_ HO_3.out)) k_ hk, Kd.fresh' (Kd.N_lt (rN_ HO220.out)) k_ hk, Kd.freshB (g := gb190) (o := .cells #[.int .i64 a0_0, .slice A0_1 l0_1.length c0_1] 27 (0, 0)) (bk_ BK190.out) k_ hk⟩) _ (Nat.le_refl _)) (Below.refl _ _) (Nat.le_refl _) (by simp) ?_; (case hd => rfl); (case hg => rfl); (case hr => first | (go_simp; done) | (go_simp; rfl)); (case hp => exact (Reps.none _ _))
                       intro v208 w50 ho51 hb hg_ hnew_
                       clear hg_ hnew_
                       (first | rw [← Ny207.out] at ho51 | (simp only [Int.reduceToNat] at ho51; rw [← Ny207.out] at ho51))
                       have n0_ := Aside0.mk (Kd.N_elder' (rN_ HO_3.out) (Kd.N_base ho51) hb)
                       have n1_ := Aside0.mk (Kd.V_elder' (by (with_reducible repeat (first | apply Kd.V_alloc | apply ZA | apply Kd.V_drew)); exact HL205_0.out) (Kd.N_base ho51) hb)
                       have n2_ := Aside0.mk (Kd.V_elder' (rV_ HO214.out) (Kd.N_base ho51) hb)
                       have n3_ := Aside0.mk (Kd.V_elder' (rV_ HO228.out) (Kd.N_base ho51) hb)
                       have n4_ := Aside0.mk (Kd.N_elder' (rN_ HO220.out) (Kd.N_base ho51) hb)
                       have n5_ := Aside0.mk (Kd.N_lower ho51 (Zi hb_))
                       have n6_ := Aside0.mk (Zj (g := gb190) (o := .cells #[.int .i64 a0_0, .slice A0_1 l0_1.length c0_1] 27 (0, 0)) (bk_ BK190.out) hb)
                       have n7_ := Aside0.mk (Kd.C_below (cf_ HR205_0.out) hb)
                       have n8_ := Aside0.mk (Zf hb_ hb)
                       clear HO_3
                       clear HL205_0
                       clear HO214
                       clear HO228
                       clear HO220
                       clear BK190
                       clear HR205_0
                       clear HB
                       have HO_3 := n0_
                       have HL205_0 := n1_
                       have HO214 := n2_
                       have HO228 := n3_
                       have HO220 := n4_
                       have HO209 := n5_
                       have BK190 := n6_
                       have HR205_0 := n7_
                       have HB := n8_
                       clear n0_ n1_ n2_ n3_ n4_ n5_ n6_ n7_ n8_
                       clear hb ho51
                       refine hK.out _ _ trivial (fun hHeld => ?_)
                       clear hK K
                       refine norm_ (a' := ?_) ?_ ?_
                       rotate_left
                       ·show Act.put _ (some 54) _ = _
                        simp only [Act.put, Za, Zb, Zc, Zk, Zm]
                        rfl
                       refine one_ (i := 4) (N := some 58) #[Y,Y,Y,Y,Y,Y,Y,O,Y,Y,Y,O,O] rfl rfl (one_of HT_.out (by kernel_rfl)) (by decide) (fun K hK => ?_)
                       refine Kd.N_append_rows_step (Kd.slice 3 (Kd.int .i64)) (w0 := w) w.heap.size (by rfl) (.tmp 54) (.tmp 57) 22 38 (.slice none 0 0) 24 rfl Try.underlying22 info38 rfl (by decide) (by omega) v208 y207 y210 _ _ _ (fun k_ => (w.heap.size ≤ k_) ∧ some k_ ≠ (v219 : Value).ownBlock ∧ k_ ≠ gb190) (fun k_ => ((fun k_ => (w.heap.size ≤ k_) ∧ some k_ ≠ (v219 : Value).ownBlock ∧ k_ ≠ gb190)) k_ ∧ some k_ ≠ (v208 : Value).ownBlock) rfl rfl ?aO ?aR (fun _ hk => hk) ?aF ?aB ?aS ?aL ?_
                       (case aR => exact (by skip; exact Kd.V_F (Zz (ok' := (fun k_ => ((fun k_ => (w.heap.size ≤ k_) ∧ some k_ ≠ (v219 : Value).ownBlock ∧ k_ ≠ gb190)) k_ ∧ some k_ ≠ (v208 : Value).ownBlock)) (HO214.out) (fun k_ hk => ⟨⟨hk.1.1.1, ⟨hk.1.2, hk.1.1.2.2⟩⟩, hk.2⟩))))
                       (case aB => exact hb_)
                       (case aF => exact (fun k_ hk => ⟨(Nat.le_trans (Zi hb_) hk), Kd.fresh' (Kd.N_lt (rN_ HO220.out)) k_ hk, Kd.freshB (g := gb190) (o := .cells #[.int .i64 a0_0, .slice A0_1 l0_1.length c0_1] 27 (0, 0)) (bk_ BK190.out) k_ hk⟩))
                       (case aO => exact (by (with_reducible repeat (first | apply ZD | apply ZC | apply Kd.N_drew)); exact ZB HO209.out (fun _ hk => ⟨hk.1, ⟨hk.2.2.1, hk.2.2.2⟩⟩)))
                       (case aS => exact (Zi hb_))
                       (case aL => have := LMc40.out; omega)
                       intro v216 w52 ho hb hg hat
                       rw [← Ny215.out] at ho
                       have n0_ := Aside0.mk (Kd.N_afterv (ok := (fun k_ => (w.heap.size ≤ k_) ∧ some k_ ≠ (v219 : Value).ownBlock ∧ k_ ≠ gb190)) (by (with_reducible repeat (first | apply ZD | apply ZC | apply Kd.N_drew)); exact ZB HO_3.out (fun _ hk => ⟨⟨hk.1.1.1, ⟨hk.1.2, hk.1.1.2.2⟩⟩, hk.2⟩)) hg hat)
                       have n1_ := Aside0.mk (blk_grown (g := gb190) (o := .cells #[.int .i64 a0_0, .slice A0_1 l0_1.length c0_1] 27 (0, 0)) (bk_ BK190.out) hg (Kd.N_ne HO209.out BK190.out (by decide)))
                       have n2_ := Aside0.mk (Kd.V_afterv (ok := (fun k_ => (w.heap.size ≤ k_) ∧ some k_ ≠ (.slice (some ad205) x3_1.length co31 : Value).ownBlock ∧ some k_ ≠ (v219 : Value).ownBlock ∧ k_ ≠ gb190)) (by (with_reducible repeat (first | apply Kd.V_alloc | apply ZA | apply Kd.V_drew)); exact Zz HL205_0.out (fun _ hk => by ((repeat' apply And.intro) <;> (first | exact hk.1 | exact hk.2 | exact hk.1.1 | exact hk.1.2 | exact hk.2.1 | exact hk.2.2 | exact hk.1.1.1 | exact hk.1.1.2 | exact hk.1.2.1 | exact hk.1.2.2 | exact hk.2.1.1 | exact hk.2.1.2 | exact hk.2.2.1 | exact hk.2.2.2 | exact hk.1.1.1.1 | exact hk.1.1.1.2 | exact hk.1.1.2.1 | exact hk.1.1.2.2 | exact hk.1.2.1.1 | exact hk.1.2.1.2 | exact hk.1.2.2.1 | exact hk.1.2.2.2 | exact hk.2.1.1.1 | exact hk.2.1.1.2 | exact hk.2.1.2.1 | exact hk.2.1.2.2 | exact hk.2.2.1.1 | exact hk.2.2.1.2 | exact hk.2.2.2.1 | exact hk.2.2.2.2 | exact hk.1.1.1.1.1 | exact hk.1.1.1.1.2 | exact hk.1.1.1.2.1 | exact hk.1.1.1.2.2 | exact hk.1.1.2.1.1 | exact hk.1.1.2.1.2 | exact hk.1.1.2.2.1 | exact hk.1.1.2.2.2 | exact hk.1.2.1.1.1 | exact hk.1.2.1.1.2 | exact hk.1.2.1.2.1 | exact hk.1.2.1.2.2 | exact hk.1.2.2.1.1 | exact hk.1.2.2.1.2 | exact hk.1.2.2.2.1 | exact hk.1.2.2.2.2 | exact hk.2.1.1.1.1 | exact hk.2.1.1.1.2 | exact hk.2.1.1.2.1 | exact hk.2.1.1.2.2 | exact hk.2.1.2.1.1 | exact hk.2.1.2.1.2 | exact hk.2.1.2.2.1 | exact hk.2.1.2.2.2 | exact hk.2.2.1.1.1 | exact hk.2.2.1.1.2 | exact hk.2.2.1.2.1 | exact hk.2.2.1.2.2 | exact hk.2.2.2.1.1 | exact hk.2.2.2.1.2 | exact hk.2.2.2.2.1 | exact hk.2.2.2.2.2)))) hg hat)
                       have n3_ := Aside0.mk (Kd.V_afterv (ok := (fun k_ => (w.heap.size ≤ k_) ∧ some k_ ≠ (v219 : Value).ownBlock ∧ k_ ≠ gb190)) (by (with_reducible repeat (first | apply Kd.V_alloc | apply ZA | apply Kd.V_drew)); exact Zz HO214.out (fun _ hk => ⟨⟨hk.1.1.1, ⟨hk.1.2, hk.1.1.2.2⟩⟩, hk.2⟩)) hg hat)
                       have n4_ := Aside0.mk (Kd.V_afterv (ok := (fun k_ => (w.heap.size ≤ k_) ∧ some k_ ≠ (v219 : Value).ownBlock ∧ k_ ≠ gb190)) (by (with_reducible repeat (first | apply Kd.V_alloc | apply ZA | apply Kd.V_drew)); exact Zz HO228.out (fun _ hk => ⟨⟨hk.1.1.1, ⟨hk.1.2, hk.1.1.2.2⟩⟩, hk.2⟩)) hg hat)
                       have n5_ := Aside0.mk (Kd.N_afterv (ok := (fun k_ => (w.heap.size ≤ k_) ∧ some k_ ≠ (.slice (some ad205) x3_1.length co31 : Value).ownBlock ∧ k_ ≠ gb190)) (rN_ HO220.out) hg hat)
                       have n6_ := Aside0.mk (hb)
                       have n7_ := Aside0.mk (ho)
                       clear HO_3
                       clear BK190
                       clear HL205_0
                       clear HO214
                       clear HO228
                       clear HO220
                       clear HB
                       clear HO209
                       have HO_3 := n0_
                       have BK190 := n1_
                       have HL205_0 := n2_
                       have HO214 := n3_
                       have HO228 := n4_
                       have HO220 := n5_
                       have HB := n6_
                       have HO217 := n7_
                       clear n0_ n1_ n2_ n3_ n4_ n5_ n6_ n7_
                       clear ho hb hg hat
                       refine hK.out _ _ trivial (fun hHeld => ?_)
                       clear hK K
                       refine norm_ (a' := ?_) ?_ ?_
                       rotate_left
                       ·show Act.put _ (some 58) _ = _
                        simp only [Act.put, Za, Zb, Zc, Zk, Zm]
                        rfl
                       exact norm_ (by simp only [putAll, Act.put, Za, Zb, Zc]) (hCont (v208, v216, v219) _ ⟨(by (with_reducible repeat (first | apply Kd.V_alloc | apply ZA | apply Kd.V_drew)); exact Zz HL205_0.out (fun _ hk => ⟨hk.1.1, ⟨hk.2, ⟨hk.1.2.2.1, ⟨hk.1.2.1, hk.1.2.2.2⟩⟩⟩⟩)), (by (with_reducible repeat (first | apply Kd.V_alloc | apply ZA | apply Kd.V_drew)); exact Zz HO214.out (fun _ hk => ⟨hk.1.1, ⟨hk.2, ⟨hk.1.2.1, hk.1.2.2⟩⟩⟩)), (rN_ HO217.out), (by (with_reducible repeat (first | apply ZD | apply ZC | apply Kd.N_drew)); exact ZB HO220.out (fun _ hk => ⟨hk.1.1, ⟨hk.2, ⟨hk.1.2.1, hk.1.2.2⟩⟩⟩)), (by (with_reducible repeat (first | apply Kd.V_alloc | apply ZA | apply Kd.V_drew)); exact Zz HO228.out (fun _ hk => ⟨hk.1.1, ⟨hk.2, ⟨hk.1.2.1, hk.1.2.2⟩⟩⟩)), (by (with_reducible repeat (first | apply ZD | apply ZC | apply Kd.N_drew)); exact ZB HO_3.out (fun _ hk => ⟨hk.1.1, ⟨hk.2, ⟨hk.1.2.1, hk.1.2.2⟩⟩⟩)), (bk_ BK190.out), hb_⟩)
                     rintro ⟨v208, v216, v219⟩ w53 ⟨h0_, h1_, h2_, h3_, h4_, h5_, h6_, h7_⟩
                     have n0_ : Aside0 (Kd.V (Kd.int .i64) 3 w53 w.heap.size (fun k_ => (w.heap.size ≤ k_) ∧ some k_ ≠ (v216 : Value).ownBlock ∧ some k_ ≠ (v219 : Value).ownBlock ∧ some k_ ≠ (.slice (some ad205) x3_1.length co31 : Value).ownBlock ∧ k_ ≠ gb190) (.slice A205_0 (rd_L1 x3_1 (ji33)).length c205_0) (rd_L1 x3_1 (ji33))) := ⟨h0_⟩
                     have n1_ : Aside0 (Kd.V (Kd.slice 3 (Kd.int .i64)) 38 w53 w.heap.size (fun k_ => (w.heap.size ≤ k_) ∧ some k_ ≠ (v216 : Value).ownBlock ∧ some k_ ≠ (v219 : Value).ownBlock ∧ k_ ≠ gb190) (.slice (some ad205) y210.length co31) y210) := ⟨h1_⟩
                     have n2_ : Aside0 (Kd.N (Kd.slice 3 (Kd.int .i64)) 38 w53 w.heap.size (fun k_ => (w.heap.size ≤ k_) ∧ some k_ ≠ (v219 : Value).ownBlock ∧ k_ ≠ gb190) v216 y215) := ⟨h2_⟩
                     have n3_ : Aside0 (Kd.N (Kd.slice 3 (Kd.int .i64)) 38 w53 w.heap.size (fun k_ => (w.heap.size ≤ k_) ∧ some k_ ≠ (v216 : Value).ownBlock ∧ some k_ ≠ (.slice (some ad205) x3_1.length co31 : Value).ownBlock ∧ k_ ≠ gb190) v219 y218) := ⟨h3_⟩
                     have n4_ : Aside0 (Kd.V (Kd.slice 3 (Kd.int .i64)) 38 w53 w.heap.size (fun k_ => (w.heap.size ≤ k_) ∧ some k_ ≠ (v216 : Value).ownBlock ∧ some k_ ≠ (v219 : Value).ownBlock ∧ k_ ≠ gb190) (.slice A47 y224.length c47) y224) := ⟨h4_⟩
                     have n5_ : Aside0 (Kd.N (Kd.slice 3 (Kd.int .i64)) 38 w53 w.heap.size (fun k_ => (w.heap.size ≤ k_) ∧ some k_ ≠ (v216 : Value).ownBlock ∧ some k_ ≠ (v219 : Value).ownBlock ∧ k_ ≠ gb190) (.slice (some ad205) x3_1.length co31) x3_1) := ⟨h5_⟩
                     have n6_ : Aside0 (w53.heap[gb190]? = some (.cells #[.int .i64 a0_0, .slice A0_1 l0_1.length c0_1] 27 (0, 0))) := ⟨h6_⟩
                     have n7_ : Aside0 (Below w.heap.size w w53) := ⟨h7_⟩
                     clear HO_3
                     clear HO_5
                     clear HL205_0
                     clear BK190
                     clear HR205_0
                     clear HB
                     clear h0_ h1_ h2_ h3_ h4_ h5_ h6_ h7_
                     have HL205_0 := n0_
                     have HO214 := n1_
                     have HO217 := n2_
                     have HO220 := n3_
                     have HO228 := n4_
                     have HO_3 := n5_
                     have BK190 := n6_
                     have HB := n7_
                     clear n0_ n1_ n2_ n3_ n4_ n5_ n6_ n7_
                     have hHeld := trivial
                     obtain ⟨Ao55, co55, eo55⟩ := Kd.N_slice HO220.out
                     (first | subst eo55 | (injection eo55 with f1_ f2_ f3_; have f4_ := f1_.symm; have f5_ := f3_.symm; clear f1_ f2_ f3_; subst f4_; subst f5_))
                     refine norm_ (a' := ?_) ?_ ?_
                     rotate_left
                     ·simp only [putAll, Act.put, Za, Zb, Zc]
                      rfl
                     refine one_ (i := 7) (N := some 61) #[Y,Y,Y,Y,Y,Y,Y,Y,Y,Y,Y,O,O] rfl rfl (one_of HT_.out (by kernel_rfl)) (by decide) (fun K hK => ?_)
                     refine Kd.N_append_rows_step (Kd.slice 3 (Kd.int .i64)) (w0 := w) w.heap.size (by rfl) (.tmp 58) (.tmp 60) 22 38 (.slice none 0 0) 24 rfl Try.underlying22 info38 rfl (by decide) (by omega) v216 y215 y218 _ _ _ (fun k_ => (w.heap.size ≤ k_) ∧ k_ ≠ gb190) (fun k_ => ((fun k_ => (w.heap.size ≤ k_) ∧ k_ ≠ gb190)) k_ ∧ some k_ ≠ (v216 : Value).ownBlock) rfl rfl ?aO ?aR (fun _ hk => hk) ?aF ?aB ?aS ?aL ?_
                     (case aR => exact (by skip; exact Kd.N_F (ZB (ok' := (fun k_ => ((fun k_ => (w.heap.size ≤ k_) ∧ k_ ≠ gb190)) k_ ∧ some k_ ≠ (v216 : Value).ownBlock)) (HO220.out) (fun k_ hk => ⟨⟨hk.1, hk.2.2.2⟩, hk.2.1⟩))))
                     (case aB => exact hb_)
                     (case aF => exact (fun k_ hk => ⟨(Nat.le_trans (Zi hb_) hk), Kd.freshB (g := gb190) (o := .cells #[.int .i64 a0_0, .slice A0_1 l0_1.length c0_1] 27 (0, 0)) (bk_ BK190.out) k_ hk⟩))
                     (case aO => exact (by (with_reducible repeat (first | apply ZD | apply ZC | apply Kd.N_drew)); exact ZB HO217.out (fun _ hk => ⟨hk.1, hk.2.2⟩)))
                     (case aS => exact (Zi hb_))
                     (case aL => have := LMc41.out; omega)
                     intro v222 w54 ho hb hg hat
                     rw [← Ny221.out] at ho
                     have n0_ := Aside0.mk (Kd.N_afterv (ok := (fun k_ => (w.heap.size ≤ k_) ∧ some k_ ≠ (.slice Ao55 y218.length co55 : Value).ownBlock ∧ k_ ≠ gb190)) (by (with_reducible repeat (first | apply ZD | apply ZC | apply Kd.N_drew)); exact ZB HO_3.out (fun _ hk => ⟨⟨hk.1, ⟨hk.2.2.1, hk.2.2.2⟩⟩, hk.2.1⟩)) hg hat)
                     have n1_ := Aside0.mk (blk_grown (g := gb190) (o := .cells #[.int .i64 a0_0, .slice A0_1 l0_1.length c0_1] 27 (0, 0)) (bk_ BK190.out) hg (Kd.N_ne HO217.out BK190.out (by decide)))
                     have n2_ := Aside0.mk (Kd.V_afterv (ok := (fun k_ => (w.heap.size ≤ k_) ∧ some k_ ≠ (.slice (some ad205) x3_1.length co31 : Value).ownBlock ∧ some k_ ≠ (.slice Ao55 y218.length co55 : Value).ownBlock ∧ k_ ≠ gb190)) (by (with_reducible repeat (first | apply Kd.V_alloc | apply ZA | apply Kd.V_drew)); exact Zz HL205_0.out (fun _ hk => by ((repeat' apply And.intro) <;> (first | exact hk.1 | exact hk.2 | exact hk.1.1 | exact hk.1.2 | exact hk.2.1 | exact hk.2.2 | exact hk.1.1.1 | exact hk.1.1.2 | exact hk.1.2.1 | exact hk.1.2.2 | exact hk.2.1.1 | exact hk.2.1.2 | exact hk.2.2.1 | exact hk.2.2.2 | exact hk.1.1.1.1 | exact hk.1.1.1.2 | exact hk.1.1.2.1 | exact hk.1.1.2.2 | exact hk.1.2.1.1 | exact hk.1.2.1.2 | exact hk.1.2.2.1 | exact hk.1.2.2.2 | exact hk.2.1.1.1 | exact hk.2.1.1.2 | exact hk.2.1.2.1 | exact hk.2.1.2.2 | exact hk.2.2.1.1 | exact hk.2.2.1.2 | exact hk.2.2.2.1 | exact hk.2.2.2.2 | exact hk.1.1.1.1.1 | exact hk.1.1.1.1.2 | exact hk.1.1.1.2.1 | exact hk.1.1.1.2.2 | exact hk.1.1.2.1.1 | exact hk.1.1.2.1.2 | exact hk.1.1.2.2.1 | exact hk.1.1.2.2.2 | exact hk.1.2.1.1.1 | exact hk.1.2.1.1.2 | exact hk.1.2.1.2.1 | exact hk.1.2.1.2.2 | exact hk.1.2.2.1.1 | exact hk.1.2.2.1.2 | exact hk.1.2.2.2.1 | exact hk.1.2.2.2.2 | exact hk.2.1.1.1.1 | exact hk.2.1.1.1.2 | exact hk.2.1.1.2.1 | exact hk.2.1.1.2.2 | exact hk.2.1.2.1.1 | exact hk.2.1.2.1.2 | exact hk.2.1.2.2.1 | exact hk.2.1.2.2.2 | exact hk.2.2.1.1.1 | exact hk.2.2.1.1.2 | exact hk.2.2.1.2.1 | exact hk.2.2.1.2.2 | exact hk.2.2.2.1.1 | exact hk.2.2.2.1.2 | exact hk.2.2.2.2.1 | exact hk.2.2.2.2.2)))) hg hat)
                     have n3_ := Aside0.mk (Kd.V_afterv (ok := (fun k_ => (w.heap.size ≤ k_) ∧ some k_ ≠ (.slice Ao55 y218.length co55 : Value).ownBlock ∧ k_ ≠ gb190)) (by (with_reducible repeat (first | apply Kd.V_alloc | apply ZA | apply Kd.V_drew)); exact Zz HO214.out (fun _ hk => ⟨⟨hk.1, ⟨hk.2.2.1, hk.2.2.2⟩⟩, hk.2.1⟩)) hg hat)
                     have n4_ := Aside0.mk (Kd.V_afterv (ok := (fun k_ => (w.heap.size ≤ k_) ∧ some k_ ≠ (.slice Ao55 y218.length co55 : Value).ownBlock ∧ k_ ≠ gb190)) (by (with_reducible repeat (first | apply Kd.V_alloc | apply ZA | apply Kd.V_drew)); exact Zz HO228.out (fun _ hk => ⟨⟨hk.1, ⟨hk.2.2.1, hk.2.2.2⟩⟩, hk.2.1⟩)) hg hat)
                     have n5_ := Aside0.mk (Kd.N_afterv (ok := (fun k_ => (w.heap.size ≤ k_) ∧ some k_ ≠ (.slice (some ad205) x3_1.length co31 : Value).ownBlock ∧ k_ ≠ gb190)) (by (with_reducible repeat (first | apply ZD | apply ZC | apply Kd.N_drew)); exact ZB HO220.out (fun _ hk => ⟨⟨hk.1, ⟨hk.2.2.1, hk.2.2.2⟩⟩, hk.2.1⟩)) hg hat)
                     have n6_ := Aside0.mk (hb)
                     have n7_ := Aside0.mk (ho)
                     clear HO_3
                     clear BK190
                     clear HL205_0
                     clear HO214
                     clear HO228
                     clear HO220
                     clear HB
                     clear HO217
                     have HO_3 := n0_
                     have BK190 := n1_
                     have HL205_0 := n2_
                     have HO214 := n3_
                     have HO228 := n4_
                     have HO220 := n5_
                     have HB := n6_
                     have HO223 := n7_
                     clear n0_ n1_ n2_ n3_ n4_ n5_ n6_ n7_
                     clear ho hb hg hat
                     refine hK.out _ _ trivial (fun hHeld => ?_)
                     clear hK K
                     refine norm_ (a' := ?_) ?_ ?_
                     rotate_left
                     ·show Act.put _ (some 61) _ = _
                      simp only [Act.put, Za, Zb, Zc, Zk, Zm]
                      rfl
                     refine one_ (i := 11) (N := some 65) #[Y,Y,Y,Y,Y,Y,Y,Y,Y,Y,Y,Y,O] rfl rfl (one_of HT_.out (by kernel_rfl)) (by decide) (fun K hK => ?_)
                     refine Kd.N_append_rows_step (Kd.slice 3 (Kd.int .i64)) (w0 := w) w.heap.size (by rfl) (.tmp 61) (.tmp 64) 22 38 (.slice none 0 0) 24 rfl Try.underlying22 info38 rfl (by decide) (by omega) v222 y221 y224 _ _ _ (fun k_ => (w.heap.size ≤ k_) ∧ k_ ≠ gb190) (fun k_ => ((fun k_ => (w.heap.size ≤ k_) ∧ k_ ≠ gb190)) k_ ∧ some k_ ≠ (v222 : Value).ownBlock) rfl rfl ?aO ?aR (fun _ hk => hk) ?aF ?aB ?aS ?aL ?_
                     (case aR => exact (by skip; exact Kd.V_F (Zz (ok' := (fun k_ => ((fun k_ => (w.heap.size ≤ k_) ∧ k_ ≠ gb190)) k_ ∧ some k_ ≠ (v222 : Value).ownBlock)) (HO228.out) (fun k_ hk => ⟨⟨hk.1.1, hk.1.2.2⟩, hk.2⟩))))
                     (case aB => exact hb_)
                     (case aF => exact (fun k_ hk => ⟨(Nat.le_trans (Zi hb_) hk), Kd.freshB (g := gb190) (o := .cells #[.int .i64 a0_0, .slice A0_1 l0_1.length c0_1] 27 (0, 0)) (bk_ BK190.out) k_ hk⟩))
                     (case aO => exact (rN_ HO223.out))
                     (case aS => exact (Zi hb_))
                     (case aL => have := LMc44.out; omega)
                     intro v230 w56 ho hb hg hat
                     rw [← Ny229.out] at ho
                     have n0_ := Aside0.mk (Kd.N_afterv (ok := (fun k_ => (w.heap.size ≤ k_) ∧ some k_ ≠ (.slice Ao55 y218.length co55 : Value).ownBlock ∧ k_ ≠ gb190)) (rN_ HO_3.out) hg hat)
                     have n1_ := Aside0.mk (blk_grown (g := gb190) (o := .cells #[.int .i64 a0_0, .slice A0_1 l0_1.length c0_1] 27 (0, 0)) (bk_ BK190.out) hg (Kd.N_ne HO223.out BK190.out (by decide)))
                     have n2_ := Aside0.mk (Kd.V_afterv (ok := (fun k_ => (w.heap.size ≤ k_) ∧ some k_ ≠ (.slice (some ad205) x3_1.length co31 : Value).ownBlock ∧ some k_ ≠ (.slice Ao55 y218.length co55 : Value).ownBlock ∧ k_ ≠ gb190)) (by (with_reducible repeat (first | apply Kd.V_alloc | apply ZA | apply Kd.V_drew)); exact HL205_0.out) hg hat)
                     have n3_ := Aside0.mk (Kd.V_afterv (ok := (fun k_ => (w.heap.size ≤ k_) ∧ some k_ ≠ (.slice Ao55 y218.length co55 : Value).ownBlock ∧ k_ ≠ gb190)) (rV_ HO214.out) hg hat)
                     have n4_ := Aside0.mk (Kd.V_afterv (ok := (fun k_ => (w.heap.size ≤ k_) ∧ some k_ ≠ (.slice Ao55 y218.length co55 : Value).ownBlock ∧ k_ ≠ gb190)) (rV_ HO228.out) hg hat)
                     have n5_ := Aside0.mk (Kd.N_afterv (ok := (fun k_ => (w.heap.size ≤ k_) ∧ some k_ ≠ (.slice (some ad205) x3_1.length co31 : Value).ownBlock ∧ k_ ≠ gb190)) (rN_ HO220.out) hg hat)
                     have n6_ := Aside0.mk (hb)
                     have n7_ := Aside0.mk (ho)
                     clear HO_3
                     clear BK190
                     clear HL205_0
                     clear HO214
                     clear HO228
                     clear HO220
                     clear HB
                     clear HO223
                     have HO_3 := n0_
                     have BK190 := n1_
                     have HL205_0 := n2_
                     have HO214 := n3_
                     have HO228 := n4_
                     have HO220 := n5_
                     have HB := n6_
                     have HO231 := n7_
                     clear n0_ n1_ n2_ n3_ n4_ n5_ n6_ n7_
                     clear ho hb hg hat
                     refine hK.out _ _ trivial (fun hHeld => ?_)
                     clear hK K
                     refine norm_ (a' := ?_) ?_ ?_
                     rotate_left
                     ·show Act.put _ (some 65) _ = _
                      simp only [Act.put, Za, Zb, Zc, Zk, Zm]
                      rfl
                     refine Zq (i := 12) (N := some 3) (v := ?_) (a' := ?_) #[Y,Y,Y,Y,Y,Y,Y,Y,Y,Y,Y,Y,Y] rfl rfl (Zp HT_.out (by kernel_rfl)) (fun _ _ _ h => h) (Or.inl ⟨by rfl, ?_⟩) ?_ ?_
                     rotate_left
                     ·intro w'
                      go_simp
                      with_reducible rfl
                     rotate_left
                     ·simp only [Act.put, Za, Zb, Zc, Zk, Zm]
                      rfl
                     refine done_ (done_of HT_.out (by kernel_rfl)) ?_
                     try go_wp2
                     go_roundg k3
                     case measure => have := HK1.out; have := HK2.out; have := HK3.out; omega
                     case rel => exact ⟨(y229), (wrap64 (x4_1 + 1)), sm_, H', ⟨by have := HK1.out; have := HK2.out; have := HK3.out; omega⟩, ⟨rN_ HO231.out⟩, ⟨bk_ BK190.out⟩, ⟨hb_⟩⟩
                    ·rw [if_neg c44] at H
                     exact absurd H (by simp)
                   ·rw [if_neg c41] at H
                    exact absurd H (by simp)
                  ·rw [if_neg c40] at H
                   exact absurd H (by simp)
                 ·rw [if_neg c39] at H
                  exact absurd H (by simp)
                ·rw [if_neg c38] at H
                 exact absurd H (by simp)
              ·rw [if_neg c35] at H
               exact absurd H (by simp)
             ·rw [if_neg c34] at H
              exact absurd H (by simp)
            ·rw [if_neg c32] at H
             have c32b0 : decide (0 < x7_3) = false := decide_eq_false c32
             clear c32
             obtain ⟨y232, hy232⟩ : ∃ y_ : List (List Int), y_ = (([] : List (List Int))) := ⟨_, rfl⟩
             replace H : (if 0 ≤ x7_3 then (if x7_3 ≤ (x3_1.length : Int) then ((some (x3_1.take (x7_3 : Int).toNat : List (List Int))).bind fun y235 => (if y232.length + y235.length < 5864062014805 then ((some (y232 ++ y235 : List (List Int))).bind fun y240 => ((some (([x5_2] : List (List Int)) : List (List Int))).bind fun y243 => (if y240.length + y243.length < 5864062014805 then ((some (y240 ++ y243 : List (List Int))).bind fun y246 => ((some (x3_1.drop (x7_3 : Int).toNat : List (List Int))).bind fun y249 => (if y246.length + y249.length < 5864062014805 then (spec_AllComplete.l0 k3 (y246 ++ y249) (wrap64 (x4_1 + 1)) a0_0 l0_1) else (none)))) else (none)))) else (none))) else (none)) else (none)) = some r := hy_ hy232 H
             have Ny232 := Aside0.mk hy232
             clear hy232
             by_cases c57 : 0 ≤ x7_3
             ·rw [if_pos c57] at H
              have c57b0 := eq_true c57
              have c57b1 : decide (0 ≤ x7_3) = true := decide_eq_true c57
              clear c57
              by_cases c58 : x7_3 ≤ (x3_1.length : Int)
              ·rw [if_pos c58] at H
               have c58b0 := eq_true c58
               have c58b1 : decide (x7_3 ≤ (x3_1.length : Int)) = true := decide_eq_true c58
               clear c58
               obtain ⟨y235, hy235⟩ : ∃ y_ : List (List Int), y_ = (x3_1.take (x7_3 : Int).toNat) := ⟨_, rfl⟩
               replace H : (if y232.length + y235.length < 5864062014805 then ((some (y232 ++ y235 : List (List Int))).bind fun y240 => ((some (([x5_2] : List (List Int)) : List (List Int))).bind fun y243 => (if y240.length + y243.length < 5864062014805 then ((some (y240 ++ y243 : List (List Int))).bind fun y246 => ((some (x3_1.drop (x7_3 : Int).toNat : List (List Int))).bind fun y249 => (if y246.length + y249.length < 5864062014805 then (spec_AllComplete.l0 k3 (y246 ++ y249) (wrap64 (x4_1 + 1)) a0_0 l0_1) else (none)))) else (none)))) else (none)) = some r := hy_ hy235 H
               have Ny235 := Aside0.mk hy235
               clear hy235
               by_cases c59 : y232.length + y235.length < 5864062014805
               ·rw [if_pos c59] at H
                have LMc59 := Aside0.mk c59
                clear c59
                obtain ⟨y240, hy240⟩ : ∃ y_ : List (List Int), y_ = (y232 ++ y235) := ⟨_, rfl⟩
                replace H : ((some (([x5_2] : List (List Int)) : List (List Int))).bind fun y243 => (if y240.length + y243.length < 5864062014805 then ((some (y240 ++ y243 : List (List Int))).bind fun y246 => ((some (x3_1.drop (x7_3 : Int).toNat : List (List Int))).bind fun y249 => (if y246.length + y249.length < 5864062014805 then (spec_AllComplete.l0 k3 (y246 ++ y249) (wrap64 (x4_1 + 1)) a0_0 l0_1) else (none)))) else (none))) = some r := hy_ hy240 H
                have Ny240 := Aside0.mk hy240
                clear hy240
                obtain ⟨y243, hy243⟩ : ∃ y_ : List (List Int), y_ = (([x5_2] : List (List Int))) := ⟨_, rfl⟩
                replace H : (if y240.length + y243.length < 5864062014805 then ((some (y240 ++ y243 : List (List Int))).bind fun y246 => ((some (x3_1.drop (x7_3 : Int).toNat : List (List Int))).bind fun y249 => (if y246.length + y249.length < 5864062014805 then (spec_AllComplete.l0 k3 (y246 ++ y249) (wrap64 (x4_1 + 1)) a0_0 l0_1) else (none)))) else (none)) = some r := hy_ hy243 H
                have Ny243 := Aside0.mk hy243
                clear hy243
                by_cases c60 : y240.length + y243.length < 5864062014805
                ·rw [if_pos c60] at H
                 have LMc60 := Aside0.mk c60
                 clear c60
                 obtain ⟨y246, hy246⟩ : ∃ y_ : List (List Int), y_ = (y240 ++ y243) := ⟨_, rfl⟩
                 replace H : ((some (x3_1.drop (x7_3 : Int).toNat : List (List Int))).bind fun y249 => (if y246.length + y249.length < 5864062014805 then (spec_AllComplete.l0 k3 (y246 ++ y249) (wrap64 (x4_1 + 1)) a0_0 l0_1) else (none))) = some r := hy_ hy246 H
                 have Ny246 := Aside0.mk hy246
                 clear hy246
                 have c61b0 := eq_true (of_decide_eq_true as_ : 0 ≤ x7_3)
                 have c62b0 := eq_true (of_decide_eq_true as_ : x7_3 ≤ (x3_1.length : Int))
                 obtain ⟨y249, hy249⟩ : ∃ y_ : List (List Int), y_ = (x3_1.drop (x7_3 : Int).toNat) := ⟨_, rfl⟩
                 replace H : (if y246.length + y249.length < 5864062014805 then (spec_AllComplete.l0 k3 (y246 ++ y249) (wrap64 (x4_1 + 1)) a0_0 l0_1) else (none)) = some r := hy_ hy249 H
                 have Ny249 := Aside0.mk hy249
                 clear hy249
                 by_cases c63 : y246.length + y249.length < 5864062014805
                 ·rw [if_pos c63] at H
                  have LMc63 := Aside0.mk c63
                  clear c63
                  obtain ⟨y254, hy254⟩ : ∃ y_ : List (List Int), y_ = (y246 ++ y249) := ⟨_, rfl⟩
                  replace H : (spec_AllComplete.l0 k3 y254 (wrap64 (x4_1 + 1)) a0_0 l0_1) = some r := hy_ hy254 H
                  have Ny254 := Aside0.mk hy254
                  clear hy254
                  have H' := Aside0.mk H
                  clear H
                  try go_wp2
                  have n0_ := Aside0.mk (Kd.N_drew HO_3.out)
                  have n1_ := Aside0.mk (Kd.R_drew HO_5.out)
                  have n2_ := Aside0.mk (blk_drew BK190.out)
                  have n3_ := Aside0.mk (below_drew1 HB.out)
                  clear HO_3
                  clear HO_5
                  clear BK190
                  clear HB
                  have HO_3 := n0_
                  have HO_5 := n1_
                  have BK190 := n2_
                  have HB := n3_
                  clear n0_ n1_ n2_ n3_
                  have q65 : (x7_3 : Int) ≤ ((x3_1.length : Int) : Int) := of_decide_eq_true as_
                  obtain ⟨i065, hi065, _, hsz65, _⟩ := info_parts info38
                  have hroom65 : x3_1.length ≤ co31 := (Kd.N_reads' HO_3.out).2.1
                  have hC65 : Kd.F (Kd.slice 3 (Kd.int .i64)) _ _ Ao31 x3_1.length x3_1 := (Kd.V_at (base := w.heap.size) (Kd.N_V HO_3.out)).2.2
                  have hcut65 := cut_to (P := Try.prog) 22 38 .i64 Try.underlying22 hi065 Ao31 x3_1.length co31 x7_3 (of_decide_eq_true as_) q65 hroom65
                  have hr65 := Kd.F_take (m := (x7_3 : Int).toNat) hC65 (by omega)
                  have hy65 : y235.length = (x7_3 : Int).toNat := (by first | (rw [Ny235.out, List.length_take]; omega) | (rw [Ny235.out, List.length_take, Ny254.out, List.length_set]; omega) | (rw [Ny235.out, List.length_take, Ny249.out, List.length_set]; omega) | (rw [Ny235.out, List.length_take, Ny246.out, List.length_set]; omega) | (rw [Ny235.out, List.length_take, Ny243.out, List.length_set]; omega) | (rw [Ny235.out, List.length_take, Ny240.out, List.length_set]; omega) | (rw [Ny235.out, List.length_take, Ny232.out, List.length_set]; omega) | (rw [Ny235.out, List.length_take, Ny229.out, List.length_set]; omega))
                  rw [← Ny235.out] at hr65
                  rw [← hy65] at hcut65
                  have HO239 := Aside0.mk (show Kd.V (Kd.slice 3 (Kd.int .i64)) 38 _ w.heap.size _ (.slice Ao31 y235.length co31) y235 from Kd.V_mk (by omega) hr65)
                  have HC239 := Aside0.mk (show y235.length ≤ co31 from by omega)
                  clear hr65 hC65 hroom65 hi065 hsz65
                  have KY65 := Aside0.mk hy65
                  clear hy65
                  replace q65 := eq_true q65
                  have q66 : (x7_3 : Int) ≤ ((x3_1.length : Int) : Int) := of_decide_eq_true as_
                  obtain ⟨i066, hi066, _, hsz66, _⟩ := info_parts info38
                  have hroom66 : x3_1.length ≤ co31 := (Kd.N_reads' HO_3.out).2.1
                  have hC66 : Kd.F (Kd.slice 3 (Kd.int .i64)) _ _ Ao31 x3_1.length x3_1 := (Kd.V_at (base := w.heap.size) (Kd.N_V HO_3.out)).2.2
                  have q066 : (0 : Int) ≤ (x7_3 : Int) := of_decide_eq_true as_
                  have hcut66 := cut_from (P := Try.prog) 22 38 .i64 Try.underlying22 hi066 1 hsz66 Ao31 x3_1.length co31 x7_3 q066 q66
                  have hr66 := Kd.F_cut (m := (x7_3 : Int).toNat) (c := co31) hC66 (by omega) hroom66
                  obtain ⟨A66, hA66⟩ : ∃ A1, A1 = (if co31 = (x7_3 : Int).toNat then Ao31 else (Ao31 : Option Addr).map (·.add ((x7_3 : Int).toNat * 1))) := ⟨_, rfl⟩
                  obtain ⟨c66, hc66⟩ : ∃ c1, c1 = co31 - (x7_3 : Int).toNat := ⟨_, rfl⟩
                  have hy66 : y249.length = x3_1.length - (x7_3 : Int).toNat := (by rw [Ny249.out, List.length_drop] <;> omega)
                  rw [show (x3_1).drop (x7_3 : Int).toNat = y249 from Ny249.out.symm] at hr66
                  replace hr66 : Kd.F (Kd.slice 3 (Kd.int .i64)) _ _ A66 y249.length y249 := (by rw [hA66]; exact hr66)
                  rw [← hy66, ← hA66, ← hc66] at hcut66
                  have HO253 := Aside0.mk (show Kd.V (Kd.slice 3 (Kd.int .i64)) 38 _ w.heap.size _ (.slice A66 y249.length c66) y249 from Kd.V_mk (by rw [hy66, hc66]; exact Nat.sub_le_sub_right hroom66 _) hr66)
                  have HC253 := Aside0.mk (show y249.length ≤ c66 from by rw [hy66, hc66]; exact Nat.sub_le_sub_right hroom66 _)
                  clear hr66 hC66 hroom66 hi066 hsz66 hc66
                  have KY66 := Aside0.mk hy66
                  have KA66 := Aside0.mk hA66
                  clear hy66 hA66
                  replace q66 := eq_true q66
                  refine start_ (n := 13) (S := fun w' => True) (ds := []) #[O,O,O,O,O,O,O,O,O,O,O,O,O] (by kernel_rfl) rfl rfl trivial (fun hHeld => ?_); refine with_tabW spec_AllComplete.tab17 spec_AllComplete.bits17 (fun HT_ HW_ => ?_)
                  generalize wr.drew = w64 at HO_3 HO_5 BK190 HB HO239 HO253 hHeld ⊢
                  refine Zq (i := 1) (N := some 55) (v := ?_) (a' := ?_) #[O,Y,O,O,O,O,O,O,O,O,O,O,O] rfl rfl (Zp HT_.out (by kernel_rfl)) (fun _ _ _ h => h) (Or.inl ⟨by rfl, ?_⟩) ?_ ?_
                  rotate_left
                  ·intro w'
                   go_simp
                   with_reducible rfl
                  rotate_left
                  ·simp only [Act.put, Za, Zb, Zc, Zk, Zm]
                   rfl
                  refine Zq (i := 2) (N := some 56) (v := ?_) (a' := ?_) #[O,Y,Y,O,O,O,O,O,O,O,O,O,O] rfl rfl (Zp HT_.out (by kernel_rfl)) (fun _ _ _ h => h) (Or.inl ⟨by rfl, ?_⟩) ?_ ?_
                  rotate_left
                  ·intro w'
                   go_simp
                   with_reducible rfl
                  rotate_left
                  ·simp only [Act.put, Za, Zb, Zc, Zk, Zm]
                   rfl
                  refine Zq (i := 3) (N := some 57) (v := ?_) (a' := ?_) #[O,Y,Y,Y,O,O,O,O,O,O,O,O,O] rfl rfl (Zp HT_.out (by kernel_rfl)) (fun _ _ _ h => h) (Or.inl ⟨by rfl, ?_⟩) ?_ ?_
                  rotate_left
                  ·intro w'
                   go_simp
                   with_reducible rfl
                  rotate_left
                  ·simp only [Act.put, Za, Zb, Zc, Zk, Zm]
                   rfl
                  refine Zq (i := 5) (N := some 59) (v := ?_) (a' := ?_) #[O,Y,Y,Y,O,Y,O,O,O,O,O,O,O] rfl rfl (Zp HT_.out (by kernel_rfl)) (fun _ _ _ h => h) (Or.inl ⟨by rfl, ?_⟩) ?_ ?_
                  rotate_left
                  ·intro w'
                   go_simp
                   with_reducible rfl
                  rotate_left
                  ·simp only [Act.put, Za, Zb, Zc, Zk, Zm]
                   rfl
                  refine Zq (i := 8) (N := some 62) (v := ?_) (a' := ?_) #[O,Y,Y,Y,O,Y,O,O,Y,O,O,O,O] rfl rfl (Zp HT_.out (by kernel_rfl)) (fun _ _ _ h => h) (Or.inl ⟨by rfl, ?_⟩) ?_ ?_
                  rotate_left
                  ·intro w'
                   go_simp
                   with_reducible rfl
                  rotate_left
                  ·simp only [Act.put, Za, Zb, Zc, Zk, Zm]
                   rfl
                  refine Zq (i := 9) (N := some 63) (v := ?_) (a' := ?_) #[O,Y,Y,Y,O,Y,O,O,Y,Y,O,O,O] rfl rfl (Zp HT_.out (by kernel_rfl)) (fun _ _ _ h => h) (Or.inl ⟨by rfl, ?_⟩) ?_ ?_
                  rotate_left
                  ·intro w'
                   go_simp
                   with_reducible rfl
                  rotate_left
                  ·simp only [Act.put, Za, Zb, Zc, Zk, Zm]
                   rfl
                  refine Zq (i := 10) (N := some 64) (v := ?_) (a' := ?_) #[O,Y,Y,Y,O,Y,O,O,Y,Y,Y,O,O] rfl rfl (Zp HT_.out (by kernel_rfl)) (fun _ _ _ h => h) (Or.inl ⟨by rfl, ?_⟩) ?_ ?_
                  rotate_left
                  ·intro w'
                   go_simp
                   with_reducible rfl
                  rotate_left
                  ·simp only [Act.put, Za, Zb, Zc, Zk, Zm]
                   rfl
                  refine join_ (σ := Value × Value × Value) 3 #[Y,Y,Y,Y,Y,Y,Y,O,Y,Y,Y,O,O] (fun s_ => [(54, s_.1), (58, s_.2.1), (60, s_.2.2)]) (fun s_ w' => (Kd.V (Kd.slice 3 (Kd.int .i64)) 38 w' w.heap.size (fun k_ => (w.heap.size ≤ k_) ∧ some k_ ≠ (s_.2.1 : Value).ownBlock ∧ some k_ ≠ (s_.2.2 : Value).ownBlock ∧ k_ ≠ gb190) (.slice Ao31 y235.length co31) y235) ∧ (Kd.N (Kd.slice 3 (Kd.int .i64)) 38 w' w.heap.size (fun k_ => (w.heap.size ≤ k_) ∧ some k_ ≠ (s_.2.2 : Value).ownBlock ∧ k_ ≠ gb190) s_.2.1 y240) ∧ (Kd.N (Kd.slice 3 (Kd.int .i64)) 38 w' w.heap.size (fun k_ => (w.heap.size ≤ k_) ∧ some k_ ≠ (s_.2.1 : Value).ownBlock ∧ some k_ ≠ (.slice Ao31 x3_1.length co31 : Value).ownBlock ∧ k_ ≠ gb190) s_.2.2 y243) ∧ (Kd.V (Kd.slice 3 (Kd.int .i64)) 38 w' w.heap.size (fun k_ => (w.heap.size ≤ k_) ∧ some k_ ≠ (s_.2.1 : Value).ownBlock ∧ some k_ ≠ (s_.2.2 : Value).ownBlock ∧ k_ ≠ gb190) (.slice A66 y249.length c66) y249) ∧ (Kd.N (Kd.slice 3 (Kd.int .i64)) 38 w' w.heap.size (fun k_ => (w.heap.size ≤ k_) ∧ some k_ ≠ (s_.2.1 : Value).ownBlock ∧ some k_ ≠ (s_.2.2 : Value).ownBlock ∧ k_ ≠ gb190) (.slice Ao31 x3_1.length co31) x3_1) ∧ (w'.heap[gb190]? = some (.cells #[.int .i64 a0_0, .slice A0_1 l0_1.length c0_1] 27 (0, 0))) ∧ (Below w.heap.size w w')) ?_ ?_
                  rotate_left
                  ·intro hCont
                   refine two_ (i := 0) (j := 6) (Ni := some 54) (Nj := some 60) #[Y,Y,Y,Y,O,Y,O,O,Y,Y,Y,O,O] #[O,Y,Y,Y,O,Y,Y,O,Y,Y,Y,O,O] rfl rfl rfl rfl (two_of HT_.out (by kernel_rfl)) (by decide) (by decide) (fun K hK => ?_) (fun K hK => ?_)
                   ·skip
                    refine Kd.N_lit_step (Kd.slice 3 (Kd.int .i64)) _ 38 ?hg (N' := 54) ?hd (xs := ([] : List (List Int))) (inner := []) (ok := (fun k_ => (w.heap.size ≤ k_) ∧ some k_ ≠ (.slice Ao31 x3_1.length co31 : Value).ownBlock ∧ some k_ ≠ (.slice Ao29 x5_2.length co29 : Value).ownBlock ∧ k_ ≠ gb190)) (okp := (fun k_ => (w.heap.size ≤ k_) ∧ some k_ ≠ (.slice Ao31 x3_1.length co31 : Value).ownBlock ∧ some k_ ≠ (.slice Ao29 x5_2.length co29 : Value).ownBlock ∧ k_ ≠ gb190)) ?hr ?hp (fun _ hk => hk) ((show ∀ k_, w64.heap.size ≤ k_ → (fun k_ => (w.heap.size ≤ k_) ∧ some k_ ≠ (.slice Ao31 x3_1.length co31 : Value).ownBlock ∧ some k_ ≠ (.slice Ao29 x5_2.length co29 : Value).ownBlock ∧ k_ ≠ gb190) k_ from fun k_ hk => ⟨(Nat.le_trans (Zi hb_) hk), Kd.fresh' (Kd.N_lt (rN_ HO_3.out)) k_ hk, Kd.fresh' (Kd.R_lt (rR_ HO_5.out)) k_ hk, Kd.freshB (g := gb190) (o := .cells #[.int .i64 a0_0, .slice A0_1 l0_1.length c0_1] 27 (0, 0)) (bk_ BK190.out) k_ hk⟩) _ (Nat.le_refl _)) (Below.refl _ _) (Nat.le_refl _) (by simp) ?_; (case hd => rfl); (case hg => rfl); (case hr => first | (go_simp; done) | (go_simp; rfl)); (case hp => exact (Reps.none _ _))
                    intro v233 w67 ho68 hb hg_ hnew_
                    clear hg_ hnew_
                    (first | rw [← Ny232.out] at ho68 | (simp only [Int.reduceToNat] at ho68; rw [← Ny232.out] at ho68))
                    have n0_ := Aside0.mk (Kd.N_elder' (rN_ HO_3.out) (Kd.N_base ho68) hb)
                    have n1_ := Aside0.mk (Kd.R_below (rR_ HO_5.out) hb)
                    have n2_ := Aside0.mk (Kd.V_elder' (rV_ HO239.out) (Kd.N_base ho68) hb)
                    have n3_ := Aside0.mk (Kd.V_elder' (rV_ HO253.out) (Kd.N_base ho68) hb)
                    have n4_ := Aside0.mk (Kd.N_lower ho68 (Zi hb_))
                    have n5_ := Aside0.mk (Zj (g := gb190) (o := .cells #[.int .i64 a0_0, .slice A0_1 l0_1.length c0_1] 27 (0, 0)) (bk_ BK190.out) hb)
                    have n6_ := Aside0.mk (Zf hb_ hb)
                    clear HO_3
                    clear HO_5
                    clear HO239
                    clear HO253
                    clear BK190
                    clear HB
                    have HO_3 := n0_
                    have HO_5 := n1_
                    have HO239 := n2_
                    have HO253 := n3_
                    have HO234 := n4_
                    have BK190 := n5_
                    have HB := n6_
                    clear n0_ n1_ n2_ n3_ n4_ n5_ n6_
                    clear hb ho68
                    refine hK.out _ _ trivial (fun hHeld => ?_)
                    clear hK K
                    refine norm_ (a' := ?_) ?_ ?_
                    rotate_left
                    ·show Act.put _ (some 54) _ = _
                     simp only [Act.put, Za, Zb, Zc, Zk, Zm]
                     rfl
                    refine two_ (i := 4) (j := 6) (Ni := some 58) (Nj := some 60) #[Y,Y,Y,Y,Y,Y,O,O,Y,Y,Y,O,O] #[Y,Y,Y,Y,O,Y,Y,O,Y,Y,Y,O,O] rfl rfl rfl rfl (two_of HT_.out (by kernel_rfl)) (by decide) (by decide) (fun K hK => ?_) (fun K hK => ?_)
                    ·skip
                     refine Kd.N_append_rows_step (Kd.slice 3 (Kd.int .i64)) (w0 := w) w.heap.size (by rfl) (.tmp 54) (.tmp 57) 22 38 (.slice none 0 0) 24 rfl Try.underlying22 info38 rfl (by decide) (by omega) v233 y232 y235 _ _ _ (fun k_ => (w.heap.size ≤ k_) ∧ some k_ ≠ (.slice Ao29 x5_2.length co29 : Value).ownBlock ∧ k_ ≠ gb190) (fun k_ => ((fun k_ => (w.heap.size ≤ k_) ∧ some k_ ≠ (.slice Ao29 x5_2.length co29 : Value).ownBlock ∧ k_ ≠ gb190)) k_ ∧ some k_ ≠ (v233 : Value).ownBlock) rfl rfl ?aO ?aR (fun _ hk => hk) ?aF ?aB ?aS ?aL ?_
                     (case aR => exact (by skip; exact Kd.V_F (Zz (ok' := (fun k_ => ((fun k_ => (w.heap.size ≤ k_) ∧ some k_ ≠ (.slice Ao29 x5_2.length co29 : Value).ownBlock ∧ k_ ≠ gb190)) k_ ∧ some k_ ≠ (v233 : Value).ownBlock)) (HO239.out) (fun k_ hk => ⟨⟨hk.1.1, ⟨hk.1.2.1, hk.1.2.2⟩⟩, hk.2⟩))))
                     (case aB => exact hb_)
                     (case aF => exact (fun k_ hk => ⟨(Nat.le_trans (Zi hb_) hk), Kd.fresh' (Kd.R_lt (rR_ HO_5.out)) k_ hk, Kd.freshB (g := gb190) (o := .cells #[.int .i64 a0_0, .slice A0_1 l0_1.length c0_1] 27 (0, 0)) (bk_ BK190.out) k_ hk⟩))
                     (case aO => exact (by (with_reducible repeat (first | apply ZD | apply ZC | apply Kd.N_drew)); exact ZB HO234.out (fun _ hk => ⟨hk.1, ⟨hk.2.2.1, hk.2.2.2⟩⟩)))
                     (case aS => exact (Zi hb_))
                     (case aL => have := LMc59.out; omega)
                     intro v241 w69 ho hb hg hat
                     rw [← Ny240.out] at ho
                     have n0_ := Aside0.mk (Kd.N_afterv (ok := (fun k_ => (w.heap.size ≤ k_) ∧ some k_ ≠ (.slice Ao29 x5_2.length co29 : Value).ownBlock ∧ k_ ≠ gb190)) (rN_ HO_3.out) hg hat)
                     have n1_ := Aside0.mk (Kd.R_over' (rR_ HO_5.out) (Kd.N_typed (rN_ HO234.out)) (by decide) hg)
                     have n2_ := Aside0.mk (blk_grown (g := gb190) (o := .cells #[.int .i64 a0_0, .slice A0_1 l0_1.length c0_1] 27 (0, 0)) (bk_ BK190.out) hg (Kd.N_ne HO234.out BK190.out (by decide)))
                     have n3_ := Aside0.mk (Kd.V_afterv (ok := (fun k_ => (w.heap.size ≤ k_) ∧ some k_ ≠ (.slice Ao29 x5_2.length co29 : Value).ownBlock ∧ k_ ≠ gb190)) (rV_ HO239.out) hg hat)
                     have n4_ := Aside0.mk (Kd.V_afterv (ok := (fun k_ => (w.heap.size ≤ k_) ∧ some k_ ≠ (.slice Ao29 x5_2.length co29 : Value).ownBlock ∧ k_ ≠ gb190)) (rV_ HO253.out) hg hat)
                     have n5_ := Aside0.mk (hb)
                     have n6_ := Aside0.mk (ho)
                     clear HO_3
                     clear HO_5
                     clear BK190
                     clear HO239
                     clear HO253
                     clear HB
                     clear HO234
                     have HO_3 := n0_
                     have HO_5 := n1_
                     have BK190 := n2_
                     have HO239 := n3_
                     have HO253 := n4_
                     have HB := n5_
                     have HO242 := n6_
                     clear n0_ n1_ n2_ n3_ n4_ n5_ n6_
                     clear ho hb hg hat
                     refine hK.out _ _ trivial (fun hHeld => ?_)
                     clear hK K
                     refine norm_ (a' := ?_) ?_ ?_
                     rotate_left
                     ·show Act.put _ (some 58) _ = _
                      simp only [Act.put, Za, Zb, Zc, Zk, Zm]
                      rfl
                     refine one_ (i := 6) (N := some 60) #[Y,Y,Y,Y,Y,Y,Y,O,Y,Y,Y,O,O] rfl rfl (one_of HT_.out (by kernel_rfl)) (by decide) (fun K hK => ?_)
                     refine Kd.N_lit_step (Kd.slice 3 (Kd.int .i64)) _ 38 ?hg (N' := 60) ?hd (xs := ([x5_2] : List (List Int))) (inner := [.slice Ao29 x5_2.length co29]) (ok := (fun k_ => (w.heap.size ≤ k_) ∧ some k_ ≠ (.slice Ao31 x3_1.length co31 : Value).ownBlock ∧ some k_ ≠ (v241 : Value).ownBlock ∧ k_ ≠ gb190)) (okp := (fun k_ => (w.heap.size ≤ k_) ∧ some k_ ≠ (.slice Ao31 x3_1.length co31 : Value).ownBlock ∧ some k_ ≠ (v241 : Value).ownBlock ∧ k_ ≠ gb190)) ?hr ?hp (fun _ hk => hk) ((show ∀ k_, w69.heap.size ≤ k_ → (fun k_ => (w.heap.size ≤ k_) ∧ some k_ ≠ (.slice Ao31 x3_1.length co31 : Value).ownBlock ∧ some k_ ≠ (v241 : Value).ownBlock ∧ k_ ≠ gb190) k_ from fun k_ hk => ⟨(Nat.le_trans (Zi hb_) hk), Kd.fresh' (Kd.N_lt (rN_ HO_3.out)) k_ hk, Kd.fresh' (Kd.N_lt (rN_ HO242.out)) k_ hk, Kd.freshB (g := gb190) (o := .cells #[.int .i64 a0_0, .slice A0_1 l0_1.length c0_1] 27 (0, 0)) (bk_ BK190.out) k_ hk⟩) _ (Nat.le_refl _)) (Below.refl _ _) (Nat.le_refl _) (by simp) ?_; (case hd => rfl); (case hg => rfl); (case hr => first | (go_simp; done) | (go_simp; rfl)); (case hp => exact (Reps.one (show Kd.FK (Kd.slice 3 (Kd.int .i64)) _ _ x5_2 [.slice Ao29 x5_2.length co29] from (Kd.FK_slice_mk (Zw (Kd.R_mono (ok' := (fun k_ => (w.heap.size ≤ k_) ∧ some k_ ≠ (.slice Ao31 x3_1.length co31 : Value).ownBlock ∧ some k_ ≠ (v241 : Value).ownBlock ∧ k_ ≠ gb190)) (Kd.R_types (Kd.R_apart' (Kd.R_apart' (HO_5.out) (Kd.N_typed HO_3.out) (by decide)) (Kd.N_typed HO242.out) (by decide)) BK190.out (by decide)) (fun k_ hk => ⟨hk.1.1.1, ⟨hk.1.1.2, ⟨hk.1.2, hk.2⟩⟩⟩))).2.1 (Kd.R_F (Kd.R_mono (ok' := (fun k_ => (w.heap.size ≤ k_) ∧ some k_ ≠ (.slice Ao31 x3_1.length co31 : Value).ownBlock ∧ some k_ ≠ (v241 : Value).ownBlock ∧ k_ ≠ gb190)) (Kd.R_types (Kd.R_apart' (Kd.R_apart' (HO_5.out) (Kd.N_typed HO_3.out) (by decide)) (Kd.N_typed HO242.out) (by decide)) BK190.out (by decide)) (fun k_ hk => ⟨hk.1.1.1, ⟨hk.1.1.2, ⟨hk.1.2, hk.2⟩⟩⟩))))) (Reps.none _ _)))
                     intro v244 w70 ho71 hb hg_ hnew_
                     clear hg_ hnew_
                     (first | rw [← Ny243.out] at ho71 | (simp only [Int.reduceToNat] at ho71; rw [← Ny243.out] at ho71))
                     have n0_ := Aside0.mk (Kd.N_elder' (rN_ HO_3.out) (Kd.N_base ho71) hb)
                     have n1_ := Aside0.mk (Kd.V_elder' (rV_ HO239.out) (Kd.N_base ho71) hb)
                     have n2_ := Aside0.mk (Kd.V_elder' (rV_ HO253.out) (Kd.N_base ho71) hb)
                     have n3_ := Aside0.mk (Kd.N_elder' (rN_ HO242.out) (Kd.N_base ho71) hb)
                     have n4_ := Aside0.mk (Kd.N_lower ho71 (Zi hb_))
                     have n5_ := Aside0.mk (Zj (g := gb190) (o := .cells #[.int .i64 a0_0, .slice A0_1 l0_1.length c0_1] 27 (0, 0)) (bk_ BK190.out) hb)
                     have n6_ := Aside0.mk (Zf hb_ hb)
                     clear HO_3
                     clear HO239
                     clear HO253
                     clear HO242
                     clear BK190
                     clear HB
                     clear HO_5
                     have HO_3 := n0_
                     have HO239 := n1_
                     have HO253 := n2_
                     have HO242 := n3_
                     have HO245 := n4_
                     have BK190 := n5_
                     have HB := n6_
                     clear n0_ n1_ n2_ n3_ n4_ n5_ n6_
                     clear hb ho71
                     refine hK.out _ _ trivial (fun hHeld => ?_)
                     clear hK K
                     refine norm_ (a' := ?_) ?_ ?_
                     rotate_left
                     ·show Act.put _ (some 60) _ = _
                      simp only [Act.put, Za, Zb, Zc, Zk, Zm]
                      rfl
                     exact norm_ (by simp only [putAll, Act.put, Za, Zb, Zc]) (hCont (v233, v241, v244) _ ⟨(by (with_reducible repeat (first | apply Kd.V_alloc | apply ZA | apply Kd.V_drew)); exact Zz HO239.out (fun _ hk => ⟨hk.1.1.1, ⟨hk.1.2, ⟨hk.2, hk.1.1.2.2⟩⟩⟩)), (by (with_reducible repeat (first | apply ZD | apply ZC | apply Kd.N_drew)); exact ZB HO242.out (fun _ hk => ⟨hk.1.1, ⟨hk.2, hk.1.2.2⟩⟩)), (by (with_reducible repeat (first | apply ZD | apply ZC | apply Kd.N_drew)); exact ZB HO245.out (fun _ hk => ⟨hk.1, ⟨hk.2.2.1, ⟨hk.2.1, hk.2.2.2⟩⟩⟩)), (by (with_reducible repeat (first | apply Kd.V_alloc | apply ZA | apply Kd.V_drew)); exact Zz HO253.out (fun _ hk => ⟨hk.1.1.1, ⟨hk.1.2, ⟨hk.2, hk.1.1.2.2⟩⟩⟩)), (by (with_reducible repeat (first | apply ZD | apply ZC | apply Kd.N_drew)); exact ZB HO_3.out (fun _ hk => ⟨hk.1.1.1, ⟨hk.1.2, ⟨hk.2, hk.1.1.2.2⟩⟩⟩)), (bk_ BK190.out), hb_⟩)
                    ·skip
                     refine Kd.N_lit_step (Kd.slice 3 (Kd.int .i64)) _ 38 ?hg (N' := 60) ?hd (xs := ([x5_2] : List (List Int))) (inner := [.slice Ao29 x5_2.length co29]) (ok := (fun k_ => (w.heap.size ≤ k_) ∧ some k_ ≠ (.slice Ao31 x3_1.length co31 : Value).ownBlock ∧ some k_ ≠ (v233 : Value).ownBlock ∧ k_ ≠ gb190)) (okp := (fun k_ => (w.heap.size ≤ k_) ∧ some k_ ≠ (.slice Ao31 x3_1.length co31 : Value).ownBlock ∧ some k_ ≠ (v233 : Value).ownBlock ∧ k_ ≠ gb190)) ?hr ?hp (fun _ hk => hk) ((show ∀ k_, w67.heap.size ≤ k_ → (fun k_ => (w.heap.size ≤ k_) ∧ some k_ ≠ (.slice Ao31 x3_1.length co31 : Value).ownBlock ∧ some k_ ≠ (v233 : Value).ownBlock ∧ k_ ≠ gb190) k_ from fun k_ hk => ⟨(Nat.le_trans (Zi hb_) hk), Kd.fresh' (Kd.N_lt (rN_ HO_3.out)) k_ hk, Kd.fresh' (Kd.N_lt (rN_ HO234.out)) k_ hk, Kd.freshB (g := gb190) (o := .cells #[.int .i64 a0_0, .slice A0_1 l0_1.length c0_1] 27 (0, 0)) (bk_ BK190.out) k_ hk⟩) _ (Nat.le_refl _)) (Below.refl _ _) (Nat.le_refl _) (by simp) ?_; (case hd => rfl); (case hg => rfl); (case hr => first | (go_simp; done) | (go_simp; rfl)); (case hp => exact (Reps.one (show Kd.FK (Kd.slice 3 (Kd.int .i64)) _ _ x5_2 [.slice Ao29 x5_2.length co29] from (Kd.FK_slice_mk (Zw (Kd.R_mono (ok' := (fun k_ => (w.heap.size ≤ k_) ∧ some k_ ≠ (.slice Ao31 x3_1.length co31 : Value).ownBlock ∧ some k_ ≠ (v233 : Value).ownBlock ∧ k_ ≠ gb190)) (Kd.R_types (Kd.R_apart' (Kd.R_apart' (HO_5.out) (Kd.N_typed HO_3.out) (by decide)) (Kd.N_typed HO234.out) (by decide)) BK190.out (by decide)) (fun k_ hk => ⟨hk.1.1.1, ⟨hk.1.1.2, ⟨hk.1.2, hk.2⟩⟩⟩))).2.1 (Kd.R_F (Kd.R_mono (ok' := (fun k_ => (w.heap.size ≤ k_) ∧ some k_ ≠ (.slice Ao31 x3_1.length co31 : Value).ownBlock ∧ some k_ ≠ (v233 : Value).ownBlock ∧ k_ ≠ gb190)) (Kd.R_types (Kd.R_apart' (Kd.R_apart' (HO_5.out) (Kd.N_typed HO_3.out) (by decide)) (Kd.N_typed HO234.out) (by decide)) BK190.out (by decide)) (fun k_ hk => ⟨hk.1.1.1, ⟨hk.1.1.2, ⟨hk.1.2, hk.2⟩⟩⟩))))) (Reps.none _ _)))
                     intro v244 w69 ho70 hb hg_ hnew_
                     clear hg_ hnew_
                     (first | rw [← Ny243.out] at ho70 | (simp only [Int.reduceToNat] at ho70; rw [← Ny243.out] at ho70))
                     have n0_ := Aside0.mk (Kd.N_elder' (rN_ HO_3.out) (Kd.N_base ho70) hb)
                     have n1_ := Aside0.mk (Kd.V_elder' (rV_ HO239.out) (Kd.N_base ho70) hb)
                     have n2_ := Aside0.mk (Kd.V_elder' (rV_ HO253.out) (Kd.N_base ho70) hb)
                     have n3_ := Aside0.mk (Kd.N_elder' (rN_ HO234.out) (Kd.N_base ho70) hb)
                     have n4_ := Aside0.mk (Kd.N_lower ho70 (Zi hb_))
                     have n5_ := Aside0.mk (Zj (g := gb190) (o := .cells #[.int .i64 a0_0, .slice A0_1 l0_1.length c0_1] 27 (0, 0)) (bk_ BK190.out) hb)
                     have n6_ := Aside0.mk (Zf hb_ hb)
                     clear HO_3
                     clear HO239
                     clear HO253
                     clear HO234
                     clear BK190
                     clear HB
                     clear HO_5
                     have HO_3 := n0_
                     have HO239 := n1_
                     have HO253 := n2_
                     have HO234 := n3_
                     have HO245 := n4_
                     have BK190 := n5_
                     have HB := n6_
                     clear n0_ n1_ n2_ n3_ n4_ n5_ n6_
                     clear hb ho70
                     refine hK.out _ _ trivial (fun hHeld => ?_)
                     clear hK K
                     refine norm_ (a' := ?_) ?_ ?_
                     rotate_left
                     ·show Act.put _ (some 60) _ = _
                      simp only [Act.put, Za, Zb, Zc, Zk, Zm]
                      rfl
                     refine one_ (i := 4) (N := some 58) #[Y,Y,Y,Y,Y,Y,Y,O,Y,Y,Y,O,O] rfl rfl (one_of HT_.out (by kernel_rfl)) (by decide) (fun K hK => ?_)
                     refine Kd.N_append_rows_step (Kd.slice 3 (Kd.int .i64)) (w0 := w) w.heap.size (by rfl) (.tmp 54) (.tmp 57) 22 38 (.slice none 0 0) 24 rfl Try.underlying22 info38 rfl (by decide) (by omega) v233 y232 y235 _ _ _ (fun k_ => (w.heap.size ≤ k_) ∧ some k_ ≠ (v244 : Value).ownBlock ∧ k_ ≠ gb190) (fun k_ => ((fun k_ => (w.heap.size ≤ k_) ∧ some k_ ≠ (v244 : Value).ownBlock ∧ k_ ≠ gb190)) k_ ∧ some k_ ≠ (v233 : Value).ownBlock) rfl rfl ?aO ?aR (fun _ hk => hk) ?aF ?aB ?aS ?aL ?_
                     (case aR => exact (by skip; exact Kd.V_F (Zz (ok' := (fun k_ => ((fun k_ => (w.heap.size ≤ k_) ∧ some k_ ≠ (v244 : Value).ownBlock ∧ k_ ≠ gb190)) k_ ∧ some k_ ≠ (v233 : Value).ownBlock)) (HO239.out) (fun k_ hk => ⟨⟨hk.1.1.1, ⟨hk.2, hk.1.1.2.2⟩⟩, hk.1.2⟩))))
                     (case aB => exact hb_)
                     (case aF => exact (fun k_ hk => ⟨(Nat.le_trans (Zi hb_) hk), Kd.fresh' (Kd.N_lt (rN_ HO245.out)) k_ hk, Kd.freshB (g := gb190) (o := .cells #[.int .i64 a0_0, .slice A0_1 l0_1.length c0_1] 27 (0, 0)) (bk_ BK190.out) k_ hk⟩))
                     (case aO => exact (by (with_reducible repeat (first | apply ZD | apply ZC | apply Kd.N_drew)); exact ZB HO234.out (fun _ hk => ⟨hk.1.1, ⟨hk.2, hk.1.2.2.2⟩⟩)))
                     (case aS => exact (Zi hb_))
                     (case aL => have := LMc59.out; omega)
                     intro v241 w71 ho hb hg hat
                     rw [← Ny240.out] at ho
                     have n0_ := Aside0.mk (Kd.N_afterv (ok := (fun k_ => (w.heap.size ≤ k_) ∧ some k_ ≠ (v244 : Value).ownBlock ∧ k_ ≠ gb190)) (by (with_reducible repeat (first | apply ZD | apply ZC | apply Kd.N_drew)); exact ZB HO_3.out (fun _ hk => ⟨⟨hk.1.1.1, ⟨hk.2, hk.1.1.2.2⟩⟩, hk.1.2⟩)) hg hat)
                     have n1_ := Aside0.mk (blk_grown (g := gb190) (o := .cells #[.int .i64 a0_0, .slice A0_1 l0_1.length c0_1] 27 (0, 0)) (bk_ BK190.out) hg (Kd.N_ne HO234.out BK190.out (by decide)))
                     have n2_ := Aside0.mk (Kd.V_afterv (ok := (fun k_ => (w.heap.size ≤ k_) ∧ some k_ ≠ (v244 : Value).ownBlock ∧ k_ ≠ gb190)) (by (with_reducible repeat (first | apply Kd.V_alloc | apply ZA | apply Kd.V_drew)); exact Zz HO239.out (fun _ hk => ⟨⟨hk.1.1.1, ⟨hk.2, hk.1.1.2.2⟩⟩, hk.1.2⟩)) hg hat)
                     have n3_ := Aside0.mk (Kd.V_afterv (ok := (fun k_ => (w.heap.size ≤ k_) ∧ some k_ ≠ (v244 : Value).ownBlock ∧ k_ ≠ gb190)) (by (with_reducible repeat (first | apply Kd.V_alloc | apply ZA | apply Kd.V_drew)); exact Zz HO253.out (fun _ hk => ⟨⟨hk.1.1.1, ⟨hk.2, hk.1.1.2.2⟩⟩, hk.1.2⟩)) hg hat)
                     have n4_ := Aside0.mk (Kd.N_afterv (ok := (fun k_ => (w.heap.size ≤ k_) ∧ some k_ ≠ (.slice Ao31 x3_1.length co31 : Value).ownBlock ∧ k_ ≠ gb190)) (by (with_reducible repeat (first | apply ZD | apply ZC | apply Kd.N_drew)); exact ZB HO245.out (fun _ hk => ⟨⟨hk.1, ⟨hk.2.1, hk.2.2.2⟩⟩, hk.2.2.1⟩)) hg hat)
                     have n5_ := Aside0.mk (hb)
                     have n6_ := Aside0.mk (ho)
                     clear HO_3
                     clear BK190
                     clear HO239
                     clear HO253
                     clear HO245
                     clear HB
                     clear HO234
                     have HO_3 := n0_
                     have BK190 := n1_
                     have HO239 := n2_
                     have HO253 := n3_
                     have HO245 := n4_
                     have HB := n5_
                     have HO242 := n6_
                     clear n0_ n1_ n2_ n3_ n4_ n5_ n6_
                     clear ho hb hg hat
                     refine hK.out _ _ trivial (fun hHeld => ?_)
                     clear hK K
                     refine norm_ (a' := ?_) ?_ ?_
                     rotate_left
                     ·show Act.put _ (some 58) _ = _
                      simp only [Act.put, Za, Zb, Zc, Zk, Zm]
                      rfl
                     exact norm_ (by simp only [putAll, Act.put, Za, Zb, Zc]) (hCont (v233, v241, v244) _ ⟨(by (with_reducible repeat (first | apply Kd.V_alloc | apply ZA | apply Kd.V_drew)); exact Zz HO239.out (fun _ hk => ⟨hk.1.1, ⟨hk.2, ⟨hk.1.2.1, hk.1.2.2⟩⟩⟩)), (rN_ HO242.out), (by (with_reducible repeat (first | apply ZD | apply ZC | apply Kd.N_drew)); exact ZB HO245.out (fun _ hk => ⟨hk.1.1, ⟨hk.2, ⟨hk.1.2.1, hk.1.2.2⟩⟩⟩)), (by (with_reducible repeat (first | apply Kd.V_alloc | apply ZA | apply Kd.V_drew)); exact Zz HO253.out (fun _ hk => ⟨hk.1.1, ⟨hk.2, ⟨hk.1.2.1, hk.1.2.2⟩⟩⟩)), (by (with_reducible repeat (first | apply ZD | apply ZC | apply Kd.N_drew)); exact ZB HO_3.out (fun _ hk => ⟨hk.1.1, ⟨hk.2, ⟨hk.1.2.1, hk.1.2.2⟩⟩⟩)), (bk_ BK190.out), hb_⟩)
                   ·skip
                    refine Kd.N_lit_step (Kd.slice 3 (Kd.int .i64)) _ 38 ?hg (N' := 60) ?hd (xs := ([x5_2] : List (List Int))) (inner := [.slice Ao29 x5_2.length co29]) (ok := (fun k_ => (w.heap.size ≤ k_) ∧ some k_ ≠ (.slice Ao31 x3_1.length co31 : Value).ownBlock ∧ k_ ≠ gb190)) (okp := (fun k_ => (w.heap.size ≤ k_) ∧ some k_ ≠ (.slice Ao31 x3_1.length co31 : Value).ownBlock ∧ k_ ≠ gb190)) ?hr ?hp (fun _ hk => hk) ((show ∀ k_, w64.heap.size ≤ k_ → (fun k_ => (w.heap.size ≤ k_) ∧ some k_ ≠ (.slice Ao31 x3_1.length co31 : Value).ownBlock ∧ k_ ≠ gb190) k_ from fun k_ hk => ⟨(Nat.le_trans (Zi hb_) hk), Kd.fresh' (Kd.N_lt (rN_ HO_3.out)) k_ hk, Kd.freshB (g := gb190) (o := .cells #[.int .i64 a0_0, .slice A0_1 l0_1.length c0_1] 27 (0, 0)) (bk_ BK190.out) k_ hk⟩) _ (Nat.le_refl _)) (Below.refl _ _) (Nat.le_refl _) (by simp) ?_; (case hd => rfl); (case hg => rfl); (case hr => first | (go_simp; done) | (go_simp; rfl)); (case hp => exact (Reps.one (show Kd.FK (Kd.slice 3 (Kd.int .i64)) _ _ x5_2 [.slice Ao29 x5_2.length co29] from (Kd.FK_slice_mk (Zw (Kd.R_mono (ok' := (fun k_ => (w.heap.size ≤ k_) ∧ some k_ ≠ (.slice Ao31 x3_1.length co31 : Value).ownBlock ∧ k_ ≠ gb190)) (Kd.R_types (Kd.R_apart' (HO_5.out) (Kd.N_typed HO_3.out) (by decide)) BK190.out (by decide)) (fun k_ hk => ⟨hk.1.1, ⟨hk.1.2, hk.2⟩⟩))).2.1 (Kd.R_F (Kd.R_mono (ok' := (fun k_ => (w.heap.size ≤ k_) ∧ some k_ ≠ (.slice Ao31 x3_1.length co31 : Value).ownBlock ∧ k_ ≠ gb190)) (Kd.R_types (Kd.R_apart' (HO_5.out) (Kd.N_typed HO_3.out) (by decide)) BK190.out (by decide)) (fun k_ hk => ⟨hk.1.1, ⟨hk.1.2, hk.2⟩⟩))))) (Reps.none _ _)))
                    intro v244 w67 ho68 hb hg_ hnew_
                    clear hg_ hnew_
                    (first | rw [← Ny243.out] at ho68 | (simp only [Int.reduceToNat] at ho68; rw [← Ny243.out] at ho68))
                    have n0_ := Aside0.mk (Kd.N_elder' (rN_ HO_3.out) (Kd.N_base ho68) hb)
                    have n1_ := Aside0.mk (Kd.V_elder' (rV_ HO239.out) (Kd.N_base ho68) hb)
                    have n2_ := Aside0.mk (Kd.V_elder' (rV_ HO253.out) (Kd.N_base ho68) hb)
                    have n3_ := Aside0.mk (Kd.N_lower ho68 (Zi hb_))
                    have n4_ := Aside0.mk (Zj (g := gb190) (o := .cells #[.int .i64 a0_0, .slice A0_1 l0_1.length c0_1] 27 (0, 0)) (bk_ BK190.out) hb)
                    have n5_ := Aside0.mk (Zf hb_ hb)
                    clear HO_3
                    clear HO239
                    clear HO253
                    clear BK190
                    clear HB
                    clear HO_5
                    have HO_3 := n0_
                    have HO239 := n1_
                    have HO253 := n2_
                    have HO245 := n3_
                    have BK190 := n4_
                    have HB := n5_
                    clear n0_ n1_ n2_ n3_ n4_ n5_
                    clear hb ho68
                    refine hK.out _ _ trivial (fun hHeld => ?_)
                    clear hK K
                    refine norm_ (a' := ?_) ?_ ?_
                    rotate_left
                    ·show Act.put _ (some 60) _ = _
                     simp only [Act.put, Za, Zb, Zc, Zk, Zm]
                     rfl
                    refine one_ (i := 0) (N := some 54) #[Y,Y,Y,Y,O,Y,Y,O,Y,Y,Y,O,O] rfl rfl (one_of HT_.out (by kernel_rfl)) (by decide) (fun K hK => ?_)
                    refine Kd.N_lit_step (Kd.slice 3 (Kd.int .i64)) _ 38 ?hg (N' := 54) ?hd (xs := ([] : List (List Int))) (inner := []) (ok := (fun k_ => (w.heap.size ≤ k_) ∧ some k_ ≠ (.slice Ao31 x3_1.length co31 : Value).ownBlock ∧ some k_ ≠ (v244 : Value).ownBlock ∧ k_ ≠ gb190)) (okp := (fun k_ => (w.heap.size ≤ k_) ∧ some k_ ≠ (.slice Ao31 x3_1.length co31 : Value).ownBlock ∧ some k_ ≠ (v244 : Value).ownBlock ∧ k_ ≠ gb190)) ?hr ?hp (fun _ hk => hk) ((show ∀ k_, w67.heap.size ≤ k_ → (fun k_ => (w.heap.size ≤ k_) ∧ some k_ ≠ (.slice Ao31 x3_1.length co31 : Value).ownBlock ∧ some k_ ≠ (v244 : Value).ownBlock ∧ k_ ≠ gb190) k_ from fun k_ hk => ⟨(Nat.le_trans (Zi hb_) hk), Kd.fresh' (Kd.N_lt (rN_ HO_3.out)) k_ hk, Kd.fresh' (Kd.N_lt (rN_ HO245.out)) k_ hk, Kd.freshB (g := gb190) (o := .cells #[.int .i64 a0_0, .slice A0_1 l0_1.length c0_1] 27 (0, 0)) (bk_ BK190.out) k_ hk⟩) _ (Nat.le_refl _)) (Below.refl _ _) (Nat.le_refl _) (by simp) ?_; (case hd => rfl); (case hg => rfl); (case hr => first | (go_simp; done) | (go_simp; rfl)); (case hp => exact (Reps.none _ _))
                    intro v233 w69 ho70 hb hg_ hnew_
                    clear hg_ hnew_
                    (first | rw [← Ny232.out] at ho70 | (simp only [Int.reduceToNat] at ho70; rw [← Ny232.out] at ho70))
                    have n0_ := Aside0.mk (Kd.N_elder' (rN_ HO_3.out) (Kd.N_base ho70) hb)
                    have n1_ := Aside0.mk (Kd.V_elder' (rV_ HO239.out) (Kd.N_base ho70) hb)
                    have n2_ := Aside0.mk (Kd.V_elder' (rV_ HO253.out) (Kd.N_base ho70) hb)
                    have n3_ := Aside0.mk (Kd.N_elder' (rN_ HO245.out) (Kd.N_base ho70) hb)
                    have n4_ := Aside0.mk (Kd.N_lower ho70 (Zi hb_))
                    have n5_ := Aside0.mk (Zj (g := gb190) (o := .cells #[.int .i64 a0_0, .slice A0_1 l0_1.length c0_1] 27 (0, 0)) (bk_ BK190.out) hb)
                    have n6_ := Aside0.mk (Zf hb_ hb)
                    clear HO_3
                    clear HO239
                    clear HO253
                    clear HO245
                    clear BK190
                    clear HB
                    have HO_3 := n0_
                    have HO239 := n1_
                    have HO253 := n2_
                    have HO245 := n3_
                    have HO234 := n4_
                    have BK190 := n5_
                    have HB := n6_
                    clear n0_ n1_ n2_ n3_ n4_ n5_ n6_
                    clear hb ho70
                    refine hK.out _ _ trivial (fun hHeld => ?_)
                    clear hK K
                    refine norm_ (a' := ?_) ?_ ?_
                    rotate_left
                    ·show Act.put _ (some 54) _ = _
                     simp only [Act.put, Za, Zb, Zc, Zk, Zm]
                     rfl
                    refine one_ (i := 4) (N := some 58) #[Y,Y,Y,Y,Y,Y,Y,O,Y,Y,Y,O,O] rfl rfl (one_of HT_.out (by kernel_rfl)) (by decide) (fun K hK => ?_)
                    refine Kd.N_append_rows_step (Kd.slice 3 (Kd.int .i64)) (w0 := w) w.heap.size (by rfl) (.tmp 54) (.tmp 57) 22 38 (.slice none 0 0) 24 rfl Try.underlying22 info38 rfl (by decide) (by omega) v233 y232 y235 _ _ _ (fun k_ => (w.heap.size ≤ k_) ∧ some k_ ≠ (v244 : Value).ownBlock ∧ k_ ≠ gb190) (fun k_ => ((fun k_ => (w.heap.size ≤ k_) ∧ some k_ ≠ (v244 : Value).ownBlock ∧ k_ ≠ gb190)) k_ ∧ some k_ ≠ (v233 : Value).ownBlock) rfl rfl ?aO ?aR (fun _ hk => hk) ?aF ?aB ?aS ?aL ?_
                    (case aR => exact (by skip; exact Kd.V_F (Zz (ok' := (fun k_ => ((fun k_ => (w.heap.size ≤ k_) ∧ some k_ ≠ (v244 : Value).ownBlock ∧ k_ ≠ gb190)) k_ ∧ some k_ ≠ (v233 : Value).ownBlock)) (HO239.out) (fun k_ hk => ⟨⟨hk.1.1.1, ⟨hk.1.2, hk.1.1.2.2⟩⟩, hk.2⟩))))
                    (case aB => exact hb_)
                    (case aF => exact (fun k_ hk => ⟨(Nat.le_trans (Zi hb_) hk), Kd.fresh' (Kd.N_lt (rN_ HO245.out)) k_ hk, Kd.freshB (g := gb190) (o := .cells #[.int .i64 a0_0, .slice A0_1 l0_1.length c0_1] 27 (0, 0)) (bk_ BK190.out) k_ hk⟩))
                    (case aO => exact (by (with_reducible repeat (first | apply ZD | apply ZC | apply Kd.N_drew)); exact ZB HO234.out (fun _ hk => ⟨hk.1, ⟨hk.2.2.1, hk.2.2.2⟩⟩)))
                    (case aS => exact (Zi hb_))
                    (case aL => have := LMc59.out; omega)
                    intro v241 w71 ho hb hg hat
                    rw [← Ny240.out] at ho
                    have n0_ := Aside0.mk (Kd.N_afterv (ok := (fun k_ => (w.heap.size ≤ k_) ∧ some k_ ≠ (v244 : Value).ownBlock ∧ k_ ≠ gb190)) (by (with_reducible repeat (first | apply ZD | apply ZC | apply Kd.N_drew)); exact ZB HO_3.out (fun _ hk => ⟨⟨hk.1.1.1, ⟨hk.1.2, hk.1.1.2.2⟩⟩, hk.2⟩)) hg hat)
                    have n1_ := Aside0.mk (blk_grown (g := gb190) (o := .cells #[.int .i64 a0_0, .slice A0_1 l0_1.length c0_1] 27 (0, 0)) (bk_ BK190.out) hg (Kd.N_ne HO234.out BK190.out (by decide)))
                    have n2_ := Aside0.mk (Kd.V_afterv (ok := (fun k_ => (w.heap.size ≤ k_) ∧ some k_ ≠ (v244 : Value).ownBlock ∧ k_ ≠ gb190)) (by (with_reducible repeat (first | apply Kd.V_alloc | apply ZA | apply Kd.V_drew)); exact Zz HO239.out (fun _ hk => ⟨⟨hk.1.1.1, ⟨hk.1.2, hk.1.1.2.2⟩⟩, hk.2⟩)) hg hat)
                    have n3_ := Aside0.mk (Kd.V_afterv (ok := (fun k_ => (w.heap.size ≤ k_) ∧ some k_ ≠ (v244 : Value).ownBlock ∧ k_ ≠ gb190)) (by (with_reducible repeat (first | apply Kd.V_alloc | apply ZA | apply Kd.V_drew)); exact Zz HO253.out (fun _ hk => ⟨⟨hk.1.1.1, ⟨hk.1.2, hk.1.1.2.2⟩⟩, hk.2⟩)) hg hat)
                    have n4_ := Aside0.mk (Kd.N_afterv (ok := (fun k_ => (w.heap.size ≤ k_) ∧ some k_ ≠ (.slice Ao31 x3_1.length co31 : Value).ownBlock ∧ k_ ≠ gb190)) (rN_ HO245.out) hg hat)
                    have n5_ := Aside0.mk (hb)
                    have n6_ := Aside0.mk (ho)
                    clear HO_3
                    clear BK190
                    clear HO239
                    clear HO253
                    clear HO245
                    clear HB
                    clear HO234
                    have HO_3 := n0_
                    have BK190 := n1_
                    have HO239 := n2_
                    have HO253 := n3_
                    have HO245 := n4_
                    have HB := n5_
                    have HO242 := n6_
                    clear n0_ n1_ n2_ n3_ n4_ n5_ n6_
                    clear ho hb hg hat
                    refine hK.out _ _ trivial (fun hHeld => ?_)
                    clear hK K
                    refine norm_ (a' := ?_) ?_ ?_
                    rotate_left
                    ·show Act.put _ (some 58) _ = _
                     simp only [Act.put, Za, Zb, Zc, Zk, Zm]
                     rfl
                    exact norm_ (by simp only [putAll, Act.put, Za, Zb, Zc]) (hCont (v233, v241, v244) _ ⟨(by (with_reducible repeat (first | apply Kd.V_alloc | apply ZA | apply Kd.V_drew)); exact Zz HO239.out (fun _ hk => ⟨hk.1.1, ⟨hk.2, ⟨hk.1.2.1, hk.1.2.2⟩⟩⟩)), (rN_ HO242.out), (by (with_reducible repeat (first | apply ZD | apply ZC | apply Kd.N_drew)); exact ZB HO245.out (fun _ hk => ⟨hk.1.1, ⟨hk.2, ⟨hk.1.2.1, hk.1.2.2⟩⟩⟩)), (by (with_reducible repeat (first | apply Kd.V_alloc | apply ZA | apply Kd.V_drew)); exact Zz HO253.out (fun _ hk => ⟨hk.1.1, ⟨hk.2, ⟨hk.1.2.1, hk.1.2.2⟩⟩⟩)), (by (with_reducible repeat (first | apply ZD | apply ZC | apply Kd.N_drew)); exact ZB HO_3.out (fun _ hk => ⟨hk.1.1, ⟨hk.2, ⟨hk.1.2.1, hk.1.2.2⟩⟩⟩)), (bk_ BK190.out), hb_⟩)
                  rintro ⟨v233, v241, v244⟩ w72 ⟨h0_, h1_, h2_, h3_, h4_, h5_, h6_⟩
                  have n0_ : Aside0 (Kd.V (Kd.slice 3 (Kd.int .i64)) 38 w72 w.heap.size (fun k_ => (w.heap.size ≤ k_) ∧ some k_ ≠ (v241 : Value).ownBlock ∧ some k_ ≠ (v244 : Value).ownBlock ∧ k_ ≠ gb190) (.slice Ao31 y235.length co31) y235) := ⟨h0_⟩
                  have n1_ : Aside0 (Kd.N (Kd.slice 3 (Kd.int .i64)) 38 w72 w.heap.size (fun k_ => (w.heap.size ≤ k_) ∧ some k_ ≠ (v244 : Value).ownBlock ∧ k_ ≠ gb190) v241 y240) := ⟨h1_⟩
                  have n2_ : Aside0 (Kd.N (Kd.slice 3 (Kd.int .i64)) 38 w72 w.heap.size (fun k_ => (w.heap.size ≤ k_) ∧ some k_ ≠ (v241 : Value).ownBlock ∧ some k_ ≠ (.slice Ao31 x3_1.length co31 : Value).ownBlock ∧ k_ ≠ gb190) v244 y243) := ⟨h2_⟩
                  have n3_ : Aside0 (Kd.V (Kd.slice 3 (Kd.int .i64)) 38 w72 w.heap.size (fun k_ => (w.heap.size ≤ k_) ∧ some k_ ≠ (v241 : Value).ownBlock ∧ some k_ ≠ (v244 : Value).ownBlock ∧ k_ ≠ gb190) (.slice A66 y249.length c66) y249) := ⟨h3_⟩
                  have n4_ : Aside0 (Kd.N (Kd.slice 3 (Kd.int .i64)) 38 w72 w.heap.size (fun k_ => (w.heap.size ≤ k_) ∧ some k_ ≠ (v241 : Value).ownBlock ∧ some k_ ≠ (v244 : Value).ownBlock ∧ k_ ≠ gb190) (.slice Ao31 x3_1.length co31) x3_1) := ⟨h4_⟩
                  have n5_ : Aside0 (w72.heap[gb190]? = some (.cells #[.int .i64 a0_0, .slice A0_1 l0_1.length c0_1] 27 (0, 0))) := ⟨h5_⟩
                  have n6_ : Aside0 (Below w.heap.size w w72) := ⟨h6_⟩
                  clear HO_3
                  clear HO_5
                  clear BK190
                  clear HB
                  clear h0_ h1_ h2_ h3_ h4_ h5_ h6_
                  have HO239 := n0_
                  have HO242 := n1_
                  have HO245 := n2_
                  have HO253 := n3_
                  have HO_3 := n4_
                  have BK190 := n5_
                  have HB := n6_
                  clear n0_ n1_ n2_ n3_ n4_ n5_ n6_
                  have hHeld := trivial
                  obtain ⟨Ao74, co74, eo74⟩ := Kd.N_slice HO245.out
                  (first | subst eo74 | (injection eo74 with f1_ f2_ f3_; have f4_ := f1_.symm; have f5_ := f3_.symm; clear f1_ f2_ f3_; subst f4_; subst f5_))
                  refine norm_ (a' := ?_) ?_ ?_
                  rotate_left
                  ·simp only [putAll, Act.put, Za, Zb, Zc]
                   rfl
                  refine one_ (i := 7) (N := some 61) #[Y,Y,Y,Y,Y,Y,Y,Y,Y,Y,Y,O,O] rfl rfl (one_of HT_.out (by kernel_rfl)) (by decide) (fun K hK => ?_)
                  refine Kd.N_append_rows_step (Kd.slice 3 (Kd.int .i64)) (w0 := w) w.heap.size (by rfl) (.tmp 58) (.tmp 60) 22 38 (.slice none 0 0) 24 rfl Try.underlying22 info38 rfl (by decide) (by omega) v241 y240 y243 _ _ _ (fun k_ => (w.heap.size ≤ k_) ∧ k_ ≠ gb190) (fun k_ => ((fun k_ => (w.heap.size ≤ k_) ∧ k_ ≠ gb190)) k_ ∧ some k_ ≠ (v241 : Value).ownBlock) rfl rfl ?aO ?aR (fun _ hk => hk) ?aF ?aB ?aS ?aL ?_
                  (case aR => exact (by skip; exact Kd.N_F (ZB (ok' := (fun k_ => ((fun k_ => (w.heap.size ≤ k_) ∧ k_ ≠ gb190)) k_ ∧ some k_ ≠ (v241 : Value).ownBlock)) (HO245.out) (fun k_ hk => ⟨⟨hk.1, hk.2.2.2⟩, hk.2.1⟩))))
                  (case aB => exact hb_)
                  (case aF => exact (fun k_ hk => ⟨(Nat.le_trans (Zi hb_) hk), Kd.freshB (g := gb190) (o := .cells #[.int .i64 a0_0, .slice A0_1 l0_1.length c0_1] 27 (0, 0)) (bk_ BK190.out) k_ hk⟩))
                  (case aO => exact (by (with_reducible repeat (first | apply ZD | apply ZC | apply Kd.N_drew)); exact ZB HO242.out (fun _ hk => ⟨hk.1, hk.2.2⟩)))
                  (case aS => exact (Zi hb_))
                  (case aL => have := LMc60.out; omega)
                  intro v247 w73 ho hb hg hat
                  rw [← Ny246.out] at ho
                  have n0_ := Aside0.mk (Kd.N_afterv (ok := (fun k_ => (w.heap.size ≤ k_) ∧ some k_ ≠ (.slice Ao74 y243.length co74 : Value).ownBlock ∧ k_ ≠ gb190)) (by (with_reducible repeat (first | apply ZD | apply ZC | apply Kd.N_drew)); exact ZB HO_3.out (fun _ hk => ⟨⟨hk.1, ⟨hk.2.2.1, hk.2.2.2⟩⟩, hk.2.1⟩)) hg hat)
                  have n1_ := Aside0.mk (blk_grown (g := gb190) (o := .cells #[.int .i64 a0_0, .slice A0_1 l0_1.length c0_1] 27 (0, 0)) (bk_ BK190.out) hg (Kd.N_ne HO242.out BK190.out (by decide)))
                  have n2_ := Aside0.mk (Kd.V_afterv (ok := (fun k_ => (w.heap.size ≤ k_) ∧ some k_ ≠ (.slice Ao74 y243.length co74 : Value).ownBlock ∧ k_ ≠ gb190)) (by (with_reducible repeat (first | apply Kd.V_alloc | apply ZA | apply Kd.V_drew)); exact Zz HO239.out (fun _ hk => ⟨⟨hk.1, ⟨hk.2.2.1, hk.2.2.2⟩⟩, hk.2.1⟩)) hg hat)
                  have n3_ := Aside0.mk (Kd.V_afterv (ok := (fun k_ => (w.heap.size ≤ k_) ∧ some k_ ≠ (.slice Ao74 y243.length co74 : Value).ownBlock ∧ k_ ≠ gb190)) (by (with_reducible repeat (first | apply Kd.V_alloc | apply ZA | apply Kd.V_drew)); exact Zz HO253.out (fun _ hk => ⟨⟨hk.1, ⟨hk.2.2.1, hk.2.2.2⟩⟩, hk.2.1⟩)) hg hat)
                  have n4_ := Aside0.mk (Kd.N_afterv (ok := (fun k_ => (w.heap.size ≤ k_) ∧ some k_ ≠ (.slice Ao31 x3_1.length co31 : Value).ownBlock ∧ k_ ≠ gb190)) (by (with_reducible repeat (first | apply ZD | apply ZC | apply Kd.N_drew)); exact ZB HO245.out (fun _ hk => ⟨⟨hk.1, ⟨hk.2.2.1, hk.2.2.2⟩⟩, hk.2.1⟩)) hg hat)
                  have n5_ := Aside0.mk (hb)
                  have n6_ := Aside0.mk (ho)
                  clear HO_3
                  clear BK190
                  clear HO239
                  clear HO253
                  clear HO245
                  clear HB
                  clear HO242
                  have HO_3 := n0_
                  have BK190 := n1_
                  have HO239 := n2_
                  have HO253 := n3_
                  have HO245 := n4_
                  have HB := n5_
                  have HO248 := n6_
                  clear n0_ n1_ n2_ n3_ n4_ n5_ n6_
                  clear ho hb hg hat
                  refine hK.out _ _ trivial (fun hHeld => ?_)
                  clear hK K
                  refine norm_ (a' := ?_) ?_ ?_
                  rotate_left
                  ·show Act.put _ (some 61) _ = _
                   simp only [Act.put, Za, Zb, Zc, Zk, Zm]
                   rfl
                  refine one_ (i := 11) (N := some 65) #[Y,Y,Y,Y,Y,Y,Y,Y,Y,Y,Y,Y,O] rfl rfl (one_of HT_.out (by kernel_rfl)) (by decide) (fun K hK => ?_)
                  refine Kd.N_append_rows_step (Kd.slice 3 (Kd.int .i64)) (w0 := w) w.heap.size (by rfl) (.tmp 61) (.tmp 64) 22 38 (.slice none 0 0) 24 rfl Try.underlying22 info38 rfl (by decide) (by omega) v247 y246 y249 _ _ _ (fun k_ => (w.heap.size ≤ k_) ∧ k_ ≠ gb190) (fun k_ => ((fun k_ => (w.heap.size ≤ k_) ∧ k_ ≠ gb190)) k_ ∧ some k_ ≠ (v247 : Value).ownBlock) rfl rfl ?aO ?aR (fun _ hk => hk) ?aF ?aB ?aS ?aL ?_
                  (case aR => exact (by skip; exact Kd.V_F (Zz (ok' := (fun k_ => ((fun k_ => (w.heap.size ≤ k_) ∧ k_ ≠ gb190)) k_ ∧ some k_ ≠ (v247 : Value).ownBlock)) (HO253.out) (fun k_ hk => ⟨⟨hk.1.1, hk.1.2.2⟩, hk.2⟩))))
                  (case aB => exact hb_)
                  (case aF => exact (fun k_ hk => ⟨(Nat.le_trans (Zi hb_) hk), Kd.freshB (g := gb190) (o := .cells #[.int .i64 a0_0, .slice A0_1 l0_1.length c0_1] 27 (0, 0)) (bk_ BK190.out) k_ hk⟩))
                  (case aO => exact (rN_ HO248.out))
                  (case aS => exact (Zi hb_))
                  (case aL => have := LMc63.out; omega)
                  intro v255 w75 ho hb hg hat
                  rw [← Ny254.out] at ho
                  have n0_ := Aside0.mk (Kd.N_afterv (ok := (fun k_ => (w.heap.size ≤ k_) ∧ some k_ ≠ (.slice Ao74 y243.length co74 : Value).ownBlock ∧ k_ ≠ gb190)) (rN_ HO_3.out) hg hat)
                  have n1_ := Aside0.mk (blk_grown (g := gb190) (o := .cells #[.int .i64 a0_0, .slice A0_1 l0_1.length c0_1] 27 (0, 0)) (bk_ BK190.out) hg (Kd.N_ne HO248.out BK190.out (by decide)))
                  have n2_ := Aside0.mk (Kd.V_afterv (ok := (fun k_ => (w.heap.size ≤ k_) ∧ some k_ ≠ (.slice Ao74 y243.length co74 : Value).ownBlock ∧ k_ ≠ gb190)) (rV_ HO239.out) hg hat)
                  have n3_ := Aside0.mk (Kd.V_afterv (ok := (fun k_ => (w.heap.size ≤ k_) ∧ some k_ ≠ (.slice Ao74 y243.length co74 : Value).ownBlock ∧ k_ ≠ gb190)) (rV_ HO253.out) hg hat)
                  have n4_ := Aside0.mk (Kd.N_afterv (ok := (fun k_ => (w.heap.size ≤ k_) ∧ some k_ ≠ (.slice Ao31 x3_1.length co31 : Value).ownBlock ∧ k_ ≠ gb190)) (rN_ HO245.out) hg hat)
                  have n5_ := Aside0.mk (hb)
                  have n6_ := Aside0.mk (ho)
                  clear HO_3
                  clear BK190
                  clear HO239
                  clear HO253
                  clear HO245
                  clear HB
                  clear HO248
                  have HO_3 := n0_
                  have BK190 := n1_
                  have HO239 := n2_
                  have HO253 := n3_
                  have HO245 := n4_
                  have HB := n5_
                  have HO256 := n6_
                  clear n0_ n1_ n2_ n3_ n4_ n5_ n6_
                  clear ho hb hg hat
                  refine hK.out _ _ trivial (fun hHeld => ?_)
                  clear hK K
                  refine norm_ (a' := ?_) ?_ ?_
                  rotate_left
                  ·show Act.put _ (some 65) _ = _
                   simp only [Act.put, Za, Zb, Zc, Zk, Zm]
                   rfl
                  refine Zq (i := 12) (N := some 3) (v := ?_) (a' := ?_) #[Y,Y,Y,Y,Y,Y,Y,Y,Y,Y,Y,Y,Y] rfl rfl (Zp HT_.out (by kernel_rfl)) (fun _ _ _ h => h) (Or.inl ⟨by rfl, ?_⟩) ?_ ?_
                  rotate_left
                  ·intro w'
                   go_simp
                   with_reducible rfl
                  rotate_left
                  ·simp only [Act.put, Za, Zb, Zc, Zk, Zm]
                   rfl
                  refine done_ (done_of HT_.out (by kernel_rfl)) ?_
                  try go_wp2
                  go_roundg k3
                  case measure => have := HK1.out; have := HK2.out; have := HK3.out; omega
                  case rel => exact ⟨(y254), (wrap64 (x4_1 + 1)), sm_, H', ⟨by have := HK1.out; have := HK2.out; have := HK3.out; omega⟩, ⟨rN_ HO256.out⟩, ⟨bk_ BK190.out⟩, ⟨hb_⟩⟩
                 ·rw [if_neg c63] at H
                  exact absurd H (by simp)
                ·rw [if_neg c60] at H
                 exact absurd H (by simp)
               ·rw [if_neg c59] at H
                exact absurd H (by simp)
              ·rw [if_neg c58] at H
               exact absurd H (by simp)
             ·rw [if_neg c57] at H
              exact absurd H (by simp)
         ·replace c27 := Bool.eq_false_iff.mpr c27
          subst c27
          have H1 : (spec_AllComplete.l0 k2 x3_1 (wrap64 (x4_1 + 1)) a0_0 l0_1) = some r := by rw [if_neg (show ¬ (false = true) by decide)] at H; exact H
          clear H
          have H := H1
          clear H1
          have H' := Aside0.mk H
          clear H
          have hcz76_0 : wr.cell? ⟨gb190, 0, none⟩ = some (.int .i64 a0_0) := (Ze BK190.out 0).trans rfl
          have hcz76_1 : wr.cell? ⟨gb190, 1, none⟩ = some (.slice A0_1 l0_1.length c0_1) := (Ze BK190.out 1).trans rfl
          have hfz76_0 := Zd BK190.out 0
          have hfz76_1 := Zd BK190.out 1
          obtain ⟨Ao77, co77, eo77⟩ := Kd.R_slice HO_5.out
          subst eo77
          go_wp2_with (first | ((with_reducible refine Zl (f := 77) rfl ?_); refine Zx (some 38) rfl rfl Try.func77 (by kernel_rfl) rfl #[.agg #[.int .i64 a0_0, .slice A0_1 l0_1.length c0_1], .slice Ao77 x5_2.length co77] rfl ar_ ?_; (with_reducible refine (spec_IsComplete.calls k2 a0_0 _ _ l0_1 _ _ x5_2 false _ ?side1 ?side2 ?side3 ?side4 A26.out).mono ?_); (case side1 => exact cb_ HR0_1.out); (case side2 => exact HC0_1.out); (case side3 => repeat (first | exact (Zw HO_5.out).2.2 | (with_reducible refine Zv ?_ _) | (with_reducible refine Zt ?_ _) | (with_reducible refine Zy ?_))); (case side4 => exact (Zw HO_5.out).2.1); rintro e w78 ⟨rfl, hb⟩; refine ⟨_, rfl, ?_⟩; have n0_ := Aside0.mk (Kd.N_below (rN_ HO_3.out) hb); have n1_ := Aside0.mk (Kd.R_below (rR_ HO_5.out) hb); have n2_ := Aside0.mk (Zj (g := gb190) (o := .cells #[.int .i64 a0_0, .slice A0_1 l0_1.length c0_1] 27 (0, 0)) (bk_ BK190.out) hb); have n3_ := Aside0.mk (Zf hb_ hb); clear HO_3; clear HO_5; clear BK190; clear HB; have HO_3 := n0_; have HO_5 := n1_; have BK190 := n2_; have HB := n3_; clear n0_ n1_ n2_ n3_; (try clear hb); (try clear hb2); (try clear hk); (try clear hi)))
          go_roundg k2
          case measure => have := HK1.out; have := HK2.out; omega
          case rel => exact ⟨(x3_1), (wrap64 (x4_1 + 1)), sm_, H', ⟨by have := HK1.out; have := HK2.out; omega⟩, ⟨by (with_reducible repeat (first | apply ZD | apply ZC | apply Kd.N_drew)); exact ZB HO_3.out (fun _ hk => ⟨hk.1, hk.2.2⟩)⟩, ⟨bk_ BK190.out⟩, ⟨hb_⟩⟩
     ·rw [if_neg c11] at H
      have c11b0 : decide (x4_1 < (ji10)) = false := decide_eq_false c11
      clear c11
      obtain rfl := Option.some.inj H
      have hcz79_0 : wr.cell? ⟨gb190, 0, none⟩ = some (.int .i64 a0_0) := (Ze BK190.out 0).trans rfl
      have hcz79_1 : wr.cell? ⟨gb190, 1, none⟩ = some (.slice A0_1 l0_1.length c0_1) := (Ze BK190.out 1).trans rfl
      have hfz79_0 := Zd BK190.out 0
      have hfz79_1 := Zd BK190.out 1
      go_wp2
      go_ret
      exact ⟨_, by first | rfl | (simp [errW_none, errW_some] <;> rfl) | (simp only [← hji10]; first | rfl | (simp [errW_none, errW_some] <;> rfl)) | (simp [*, errW_none, errW_some] <;> rfl), by (with_reducible repeat (first | apply ZD | apply ZC | apply Kd.N_drew)); exact ZB HO_3.out (fun _ hk => hk.1), hb_⟩
    ·rw [if_neg c9] at H
     exact absurd H (by simp)
 ·replace c3 := Bool.eq_false_iff.mpr c3
  subst c3
  have H1 : (some y191) = some r := by rw [if_neg (show ¬ (false = true) by decide)] at H; exact H
  clear H
  have H := H1
  clear H1
  obtain rfl := Option.some.inj H
  go_enter Try.func51, Try.ntmps51
  go_wp2_with (first | ((with_reducible refine Zr (N := 1) rfl ?_); refine Zu ?hg (N := 1) ?hd (cs := #[.int .i64 a0_0, .slice A0_1 l0_1.length c0_1]) (t := 27) ?hr ?_; (case hd => rfl); (case hg => rfl); (case hr => first | (go_simp; done) | (go_simp; rfl)); intro gb190 hg w80 hbox hb; have n0_ := Aside0.mk (Zf hb_ hb); have n1_ := Aside0.mk (hbox); have n2_ := Aside0.mk ((hz_ hg : w.heap.size ≤ gb190)); have n3_ := Aside0.mk ((hz_ hg : w.heap.size ≤ gb190)); clear HB; have HB := n0_; have BK190 := n1_; have GW190 := n2_; have GE190 := n3_; clear n0_ n1_ n2_ n3_; clear hb hbox hg) | ((with_reducible refine Zr (N := 8) rfl ?_); refine Kd.N_lit (Kd.slice 3 (Kd.int .i64)) _ 38 ?hg (N' := 8) ?hd (xs := ([] : List (List Int))) (inner := []) (ok := (fun k_ => (w.heap.size ≤ k_) ∧ k_ ≠ gb190)) (okp := (fun k_ => (w.heap.size ≤ k_) ∧ k_ ≠ gb190)) ?hr ?hp (fun _ hk => hk) ((show ∀ k_, w80.heap.size ≤ k_ → (fun k_ => (w.heap.size ≤ k_) ∧ k_ ≠ gb190) k_ from fun k_ hk => ⟨(Nat.le_trans (Zi hb_) hk), Kd.freshB (g := gb190) (o := .cells #[.int .i64 a0_0, .slice A0_1 l0_1.length c0_1] 27 (0, 0)) (bk_ BK190.out) k_ hk⟩) _ (Nat.le_refl _)) (Below.refl _ _) (Nat.le_refl _) (by simp) ?_; (case hd => rfl); (case hg => rfl); (case hr => first | (go_simp; done) | (go_simp; rfl)); (case hp => exact (Reps.none _ _)); intro v192 w81 ho82 hb hg_ hnew_; clear hg_ hnew_; (first | rw [← Ny191.out] at ho82 | (simp only [Int.reduceToNat] at ho82; rw [← Ny191.out] at ho82)); have n0_ := Aside0.mk (Kd.N_lower ho82 (Zi hb_)); have n1_ := Aside0.mk (Zj (g := gb190) (o := .cells #[.int .i64 a0_0, .slice A0_1 l0_1.length c0_1] 27 (0, 0)) (bk_ BK190.out) hb); have n2_ := Aside0.mk (Zf hb_ hb); clear BK190; clear HB; have HO193 := n0_; have BK190 := n1_; have HB := n2_; clear n0_ n1_ n2_; clear hb ho82; have hcz83_0 : w81.cell? ⟨gb190, 0, none⟩ = some (.int .i64 a0_0) := (Ze BK190.out 0).trans rfl; have hcz83_1 : w81.cell? ⟨gb190, 1, none⟩ = some (.slice A0_1 l0_1.length c0_1) := (Ze BK190.out 1).trans rfl; have hfz83_0 := Zd BK190.out 0; have hfz83_1 := Zd BK190.out 1) | ((with_reducible refine Zl (f := 57) rfl ?_); refine Zx (some 10) rfl rfl Try.func57 (by kernel_rfl) rfl #[.agg #[.int .i64 a0_0, .slice A0_1 l0_1.length c0_1]] rfl ar_ ?_; (with_reducible refine (spec_IsGraph.calls k a0_0 _ _ l0_1 false _ ?side1 ?side2 A2.out).mono ?_); (case side1 => exact cb_ HR0_1.out); (case side2 => exact HC0_1.out); rintro e w84 ⟨rfl, hb⟩; refine ⟨_, rfl, ?_⟩; have n0_ := Aside0.mk (Kd.N_below (rN_ HO193.out) hb); have n1_ := Aside0.mk (Zj (g := gb190) (o := .cells #[.int .i64 a0_0, .slice A0_1 l0_1.length c0_1] 27 (0, 0)) (bk_ BK190.out) hb); have n2_ := Aside0.mk (Zf hb_ hb); clear HO193; clear BK190; clear HB; have HO193 := n0_; have BK190 := n1_; have HB := n2_; clear n0_ n1_ n2_; (try clear hb); (try clear hb2); (try clear hk); (try clear hi)))
  go_ret
  exact ⟨_, er_, by (with_reducible repeat (first | apply ZD | apply ZC | apply Kd.N_drew)); exact ZB HO193.out (fun _ hk => hk.1), hb_⟩

end Go.Proofs.Ytkmhkkhlbnhaaaa.PFnExactIsCertain
