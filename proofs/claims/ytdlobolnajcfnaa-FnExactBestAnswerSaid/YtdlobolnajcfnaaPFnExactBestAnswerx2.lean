-- Written by a program of this session (hooks of mine on the print): Lean checks it.
import Derived.Test.YtdlobolnajcfnaaPFnExactBestAnswerx0
import Derived.Test.YtdlobolnajcfnaaPFnExactBestAnswerx1
namespace Go.Proofs.Ytdlobolnajcfnaa.PFnExactBestAnswer
open Go.RowKit Go.Proofs.YtdlobolnajcfnaaW.PrintWords Go.Proofs.YtdlobolnajcfnaaW.PrintLast Go.Proofs.YtdlobolnajcfnaaW.PrintMore
attribute [local go_sem] max2_int min2_int max_two min_two max_three min_three max_four min_four   -- for this text's walks alone
set_option linter.unusedVariables false
set_option linter.unusedSimpArgs false

/-! ### laws_eqGraph: function 13 -/
def laws_eqGraph.f (k : Nat) (a0_0 : Int) (l0_1 : List (List Int)) (a1_0 : Int) (l1_1 : List (List Int)) : Option (Bool) := if a0_0 = a1_0 then ((laws_eqIntSS.f k l0_1 l1_1).bind fun t131 => (if t131 = true then (some true) else (some false))) else (some false)
theorem laws_eqGraph.mono : ∀ a0 a1 a2 a3 k, LeO (laws_eqGraph.f k a0 a1 a2 a3) (laws_eqGraph.f (k + 1) a0 a1 a2 a3) := by
 intro a0 a1 a2 a3 k
 unfold laws_eqGraph.f
 repeat' first
   | (with_reducible exact laws_eqIntSS.mono _ _ _)
   | (with_reducible exact LeO.refl _)
   | (with_reducible exact LeO.none _)
   | (with_reducible refine LeO.ite ?_ ?_)
   | (with_reducible refine LeO.bind ?_ (fun _ => ?_))
   | exact laws_eqIntSS.mono _ _ _
   | exact LeO.none _
   | refine LeO.ite ?_ ?_
   | refine LeO.bind ?_ (fun _ => ?_)
set_option maxHeartbeats 8000000 in
set_option maxRecDepth 100000 in
theorem laws_eqGraph.calls (k : Nat) (a0_0 : Int) (A0_1 : Option Addr) (c0_1 : Nat) (l0_1 : List (List Int)) (a1_0 : Int) (A1_1 : Option Addr) (c1_1 : Nat) (l1_1 : List (List Int)) (r : Bool) (w : World) (hr0_1 : Kd.C (Kd.slice 3 (Kd.int .i64)) w A0_1 l0_1.length l0_1) (hc0_1 : l0_1.length ≤ c0_1) (hr1_1 : Kd.C (Kd.slice 3 (Kd.int .i64)) w A1_1 l1_1.length l1_1) (hc1_1 : l1_1.length ≤ c1_1) (h : laws_eqGraph.f k a0_0 l0_1 a1_0 l1_1 = some r) :
  Calls Try.prog 13 #[.agg #[.int .i64 a0_0, .slice A0_1 l0_1.length c0_1], .agg #[.int .i64 a1_0, .slice A1_1 l1_1.length c1_1]] w fun e w' => e = .returned (.bool r) ∧ Below w.heap.size w w' := by
 have hu27 := Try.underlying27
 have HR0_1 := Aside0.mk hr0_1
 have HC0_1 := Aside0.mk hc0_1
 clear hr0_1 hc0_1
 have HR1_1 := Aside0.mk hr1_1
 have HC1_1 := Aside0.mk hc1_1
 clear hr1_1 hc1_1
 have HB := Aside0.mk (Below.refl w.heap.size w)
 have H : (if a0_0 = a1_0 then ((laws_eqIntSS.f k l0_1 l1_1).bind fun t131 => (if t131 = true then (some true) else (some false))) else (some false)) = some r := h
 clear h
 by_cases c3 : a0_0 = a1_0
 ·rw [if_pos c3] at H
  have c3b0 : (a0_0 == a1_0) = true := beq_iff_eq.mpr c3
  have c3b1 : (a0_0 != a1_0) = false := bne_eq_false_iff_eq.mpr c3
  clear c3
  replace H := Option.bind_eq_some_iff.mp H
  obtain ⟨t131, A40, H⟩ := H
  replace H : (if t131 = true then (some true) else (some false)) = some r := H
  have A4 := Aside0.mk A40
  clear A40
  by_cases c5 : t131 = true
  ·subst c5
   have H1 : (some true) = some r := by rw [if_pos rfl] at H; exact H
   clear H
   have H := H1
   clear H1
   obtain rfl := Option.some.inj H
   go_enter Try.func13, Try.ntmps13
   go_wp2_with (first | ((with_reducible refine gate_dst (N := 2) rfl ?_); refine box_event ?hg (N := 2) ?hd (cs := #[.int .i64 a0_0, .slice A0_1 l0_1.length c0_1]) (t := 27) ?hr ?_; (case hd => rfl); (case hg => rfl); (case hr => first | (go_simp; done) | (go_simp; rfl)); intro gb129 hg w6 hbox hb; have BK129 := Aside0.mk (hbox); have GW129 := Aside0.mk ((hz_ hg : w.heap.size ≤ gb129)); have GE129 := Aside0.mk ((hz_ hg : w.heap.size ≤ gb129)); replace HB := Aside0.mk (below_step hb_ hb); clear hb hbox hg) | ((with_reducible refine gate_dst (N := 3) rfl ?_); refine box_event ?hg (N := 3) ?hd (cs := #[.int .i64 a1_0, .slice A1_1 l1_1.length c1_1]) (t := 27) ?hr ?_; (case hd => rfl); (case hg => rfl); (case hr => first | (go_simp; done) | (go_simp; rfl)); intro gb130 hg w7 hbox hb; have BK130 := Aside0.mk (hbox); have GW130 := Aside0.mk ((hz_ hg : w.heap.size ≤ gb130)); have GE130 := Aside0.mk ((hz_ hg : w.heap.size ≤ gb130)); replace HB := Aside0.mk (below_step hb_ hb); have NB129_130 := Aside0.mk ((by rw [hg]; exact Nat.ne_of_lt (blk_lt (g := gb129) (o := .cells #[.int .i64 a0_0, .slice A0_1 l0_1.length c0_1] 27 (0, 0)) (bk_ BK129.out)) : gb129 ≠ gb130)); have NB130_129 := Aside0.mk ((by rw [hg]; exact Nat.ne_of_gt (blk_lt (g := gb129) (o := .cells #[.int .i64 a0_0, .slice A0_1 l0_1.length c0_1] 27 (0, 0)) (bk_ BK129.out)) : gb130 ≠ gb129)); replace BK129 := Aside0.mk (blk_below (g := gb129) (o := .cells #[.int .i64 a0_0, .slice A0_1 l0_1.length c0_1] 27 (0, 0)) (bk_ BK129.out) hb); clear hb hbox hg; have hnb8 := NB129_130.out; have hnc8 := NB130_129.out; have hcz9_0 : w7.cell? ⟨gb129, 0, none⟩ = some (.int .i64 a0_0) := (blk_cell BK129.out 0).trans rfl; have hcz9_1 : w7.cell? ⟨gb129, 1, none⟩ = some (.slice A0_1 l0_1.length c0_1) := (blk_cell BK129.out 1).trans rfl; have hfz9_0 := blk_frozen BK129.out 0; have hfz9_1 := blk_frozen BK129.out 1; have hcz10_0 : w7.cell? ⟨gb130, 0, none⟩ = some (.int .i64 a1_0) := (blk_cell BK130.out 0).trans rfl; have hcz10_1 : w7.cell? ⟨gb130, 1, none⟩ = some (.slice A1_1 l1_1.length c1_1) := (blk_cell BK130.out 1).trans rfl; have hfz10_0 := blk_frozen BK130.out 0; have hfz10_1 := blk_frozen BK130.out 1) | ((with_reducible refine gate_callee (f := 63) rfl ?_); refine goesL_ (some 14) rfl rfl Try.func63 (by kernel_rfl) rfl #[.slice A0_1 l0_1.length c0_1, .slice A1_1 l1_1.length c1_1] rfl ar_ ?_; (with_reducible refine (laws_eqIntSS.calls k _ _ l0_1 _ _ l1_1 true _ ?side1 ?side2 ?side3 ?side4 A4.out).mono ?_); (case side1 => exact cb_ HR0_1.out); (case side2 => exact HC0_1.out); (case side3 => exact cb_ HR1_1.out); (case side4 => exact HC1_1.out); rintro e w' ⟨rfl, ⟨nd, rfl⟩⟩; refine ⟨_, rfl, ?_⟩))
   go_ret
   exact ⟨er_, hb_⟩
  ·replace c5 := Bool.eq_false_iff.mpr c5
   subst c5
   have H1 : (some false) = some r := by rw [if_neg (show ¬ (false = true) by decide)] at H; exact H
   clear H
   have H := H1
   clear H1
   obtain rfl := Option.some.inj H
   go_enter Try.func13, Try.ntmps13
   go_wp2_with (first | ((with_reducible refine gate_dst (N := 2) rfl ?_); refine box_event ?hg (N := 2) ?hd (cs := #[.int .i64 a0_0, .slice A0_1 l0_1.length c0_1]) (t := 27) ?hr ?_; (case hd => rfl); (case hg => rfl); (case hr => first | (go_simp; done) | (go_simp; rfl)); intro gb129 hg w11 hbox hb; have BK129 := Aside0.mk (hbox); have GW129 := Aside0.mk ((hz_ hg : w.heap.size ≤ gb129)); have GE129 := Aside0.mk ((hz_ hg : w.heap.size ≤ gb129)); replace HB := Aside0.mk (below_step hb_ hb); clear hb hbox hg) | ((with_reducible refine gate_dst (N := 3) rfl ?_); refine box_event ?hg (N := 3) ?hd (cs := #[.int .i64 a1_0, .slice A1_1 l1_1.length c1_1]) (t := 27) ?hr ?_; (case hd => rfl); (case hg => rfl); (case hr => first | (go_simp; done) | (go_simp; rfl)); intro gb130 hg w12 hbox hb; have BK130 := Aside0.mk (hbox); have GW130 := Aside0.mk ((hz_ hg : w.heap.size ≤ gb130)); have GE130 := Aside0.mk ((hz_ hg : w.heap.size ≤ gb130)); replace HB := Aside0.mk (below_step hb_ hb); have NB129_130 := Aside0.mk ((by rw [hg]; exact Nat.ne_of_lt (blk_lt (g := gb129) (o := .cells #[.int .i64 a0_0, .slice A0_1 l0_1.length c0_1] 27 (0, 0)) (bk_ BK129.out)) : gb129 ≠ gb130)); have NB130_129 := Aside0.mk ((by rw [hg]; exact Nat.ne_of_gt (blk_lt (g := gb129) (o := .cells #[.int .i64 a0_0, .slice A0_1 l0_1.length c0_1] 27 (0, 0)) (bk_ BK129.out)) : gb130 ≠ gb129)); replace BK129 := Aside0.mk (blk_below (g := gb129) (o := .cells #[.int .i64 a0_0, .slice A0_1 l0_1.length c0_1] 27 (0, 0)) (bk_ BK129.out) hb); clear hb hbox hg; have hnb13 := NB129_130.out; have hnc13 := NB130_129.out; have hcz14_0 : w12.cell? ⟨gb129, 0, none⟩ = some (.int .i64 a0_0) := (blk_cell BK129.out 0).trans rfl; have hcz14_1 : w12.cell? ⟨gb129, 1, none⟩ = some (.slice A0_1 l0_1.length c0_1) := (blk_cell BK129.out 1).trans rfl; have hfz14_0 := blk_frozen BK129.out 0; have hfz14_1 := blk_frozen BK129.out 1; have hcz15_0 : w12.cell? ⟨gb130, 0, none⟩ = some (.int .i64 a1_0) := (blk_cell BK130.out 0).trans rfl; have hcz15_1 : w12.cell? ⟨gb130, 1, none⟩ = some (.slice A1_1 l1_1.length c1_1) := (blk_cell BK130.out 1).trans rfl; have hfz15_0 := blk_frozen BK130.out 0; have hfz15_1 := blk_frozen BK130.out 1) | ((with_reducible refine gate_callee (f := 63) rfl ?_); refine goesL_ (some 14) rfl rfl Try.func63 (by kernel_rfl) rfl #[.slice A0_1 l0_1.length c0_1, .slice A1_1 l1_1.length c1_1] rfl ar_ ?_; (with_reducible refine (laws_eqIntSS.calls k _ _ l0_1 _ _ l1_1 false _ ?side1 ?side2 ?side3 ?side4 A4.out).mono ?_); (case side1 => exact cb_ HR0_1.out); (case side2 => exact HC0_1.out); (case side3 => exact cb_ HR1_1.out); (case side4 => exact HC1_1.out); rintro e w' ⟨rfl, ⟨nd, rfl⟩⟩; refine ⟨_, rfl, ?_⟩))
   go_ret
   exact ⟨er_, hb_⟩
 ·rw [if_neg c3] at H
  have c3b0 : (a0_0 == a1_0) = false := beq_eq_false_iff_ne.mpr c3
  have c3b1 : (a0_0 != a1_0) = true := bne_iff_ne.mpr c3
  obtain rfl := Option.some.inj H
  go_enter Try.func13, Try.ntmps13
  go_wp2_with (first | ((with_reducible refine gate_dst (N := 2) rfl ?_); refine box_event ?hg (N := 2) ?hd (cs := #[.int .i64 a0_0, .slice A0_1 l0_1.length c0_1]) (t := 27) ?hr ?_; (case hd => rfl); (case hg => rfl); (case hr => first | (go_simp; done) | (go_simp; rfl)); intro gb129 hg w16 hbox hb; have BK129 := Aside0.mk (hbox); have GW129 := Aside0.mk ((hz_ hg : w.heap.size ≤ gb129)); have GE129 := Aside0.mk ((hz_ hg : w.heap.size ≤ gb129)); replace HB := Aside0.mk (below_step hb_ hb); clear hb hbox hg) | ((with_reducible refine gate_dst (N := 3) rfl ?_); refine box_event ?hg (N := 3) ?hd (cs := #[.int .i64 a1_0, .slice A1_1 l1_1.length c1_1]) (t := 27) ?hr ?_; (case hd => rfl); (case hg => rfl); (case hr => first | (go_simp; done) | (go_simp; rfl)); intro gb130 hg w17 hbox hb; have BK130 := Aside0.mk (hbox); have GW130 := Aside0.mk ((hz_ hg : w.heap.size ≤ gb130)); have GE130 := Aside0.mk ((hz_ hg : w.heap.size ≤ gb130)); replace HB := Aside0.mk (below_step hb_ hb); have NB129_130 := Aside0.mk ((by rw [hg]; exact Nat.ne_of_lt (blk_lt (g := gb129) (o := .cells #[.int .i64 a0_0, .slice A0_1 l0_1.length c0_1] 27 (0, 0)) (bk_ BK129.out)) : gb129 ≠ gb130)); have NB130_129 := Aside0.mk ((by rw [hg]; exact Nat.ne_of_gt (blk_lt (g := gb129) (o := .cells #[.int .i64 a0_0, .slice A0_1 l0_1.length c0_1] 27 (0, 0)) (bk_ BK129.out)) : gb130 ≠ gb129)); replace BK129 := Aside0.mk (blk_below (g := gb129) (o := .cells #[.int .i64 a0_0, .slice A0_1 l0_1.length c0_1] 27 (0, 0)) (bk_ BK129.out) hb); clear hb hbox hg; have hnb18 := NB129_130.out; have hnc18 := NB130_129.out; have hcz19_0 : w17.cell? ⟨gb129, 0, none⟩ = some (.int .i64 a0_0) := (blk_cell BK129.out 0).trans rfl; have hcz19_1 : w17.cell? ⟨gb129, 1, none⟩ = some (.slice A0_1 l0_1.length c0_1) := (blk_cell BK129.out 1).trans rfl; have hfz19_0 := blk_frozen BK129.out 0; have hfz19_1 := blk_frozen BK129.out 1; have hcz20_0 : w17.cell? ⟨gb130, 0, none⟩ = some (.int .i64 a1_0) := (blk_cell BK130.out 0).trans rfl; have hcz20_1 : w17.cell? ⟨gb130, 1, none⟩ = some (.slice A1_1 l1_1.length c1_1) := (blk_cell BK130.out 1).trans rfl; have hfz20_0 := blk_frozen BK130.out 0; have hfz20_1 := blk_frozen BK130.out 1))
  go_ret
  exact ⟨er_, hb_⟩

/-! ### spec_l1In: function 58 -/
def spec_l1In.f (a0 : Int) (a1 : Int) (a2 : Int) : Option (Bool) := if a0 ≥ a1 then (some (decide (a0 ≤ a2))) else (some false)
set_option maxHeartbeats 8000000 in
set_option maxRecDepth 100000 in
theorem spec_l1In.calls (a0 : Int) (a1 : Int) (a2 : Int) (r : Bool) (w : World) (h : spec_l1In.f a0 a1 a2 = some r) :
  Calls Try.prog 58 #[.int .i64 a0, .int .i64 a1, .int .i64 a2] w fun e w' => e = .returned (.bool r) ∧ Drawn0 w w' := by
 have H : (if a0 ≥ a1 then (some (decide (a0 ≤ a2))) else (some false)) = some r := h
 clear h
 by_cases c4 : a0 ≥ a1
 ·rw [if_pos c4] at H
  have c4b0 : decide (a1 ≤ a0) = true := decide_eq_true c4
  clear c4
  obtain rfl := Option.some.inj H
  go_enter Try.func58, Try.ntmps58
  go_wp2
  go_ret
  exact ⟨sm_, dr_⟩
 ·rw [if_neg c4] at H
  have c4b0 : decide (a1 ≤ a0) = false := decide_eq_false c4
  clear c4
  obtain rfl := Option.some.inj H
  go_enter Try.func58, Try.ntmps58
  go_wp2
  go_ret
  exact ⟨sm_, dr_⟩

/-! ### spec_IsGraph: function 57 -/
mutual
def spec_IsGraph.l0 : Nat → Int → Int → List (List Int) → Option (Bool)
 | 0, _, _, _ => none
 | k + 1, x3, x133000, x133001 => if x3 < (x133001.length : Int) then (if 0 ≤ x3 then (if ((rd_L1 x133001 x3).length : Int) = 2 then (if 0 < ((rd_L1 x133001 x3).length : Int) then ((spec_l1In.f (rd (rd_L1 x133001 x3) 0) 0 (wrap64 (x133000 - 1))).bind fun t136 => (if t136 = true then (if 1 < ((rd_L1 x133001 x3).length : Int) then ((spec_l1In.f (rd (rd_L1 x133001 x3) 1) 0 (wrap64 (x133000 - 1))).bind fun t138 => (spec_IsGraph.j1 k x3 (rd_L1 x133001 x3) (!t138) x133000 x133001)) else (none)) else (spec_IsGraph.j1 k x3 (rd_L1 x133001 x3) true x133000 x133001))) else (none)) else (spec_IsGraph.j1 k x3 (rd_L1 x133001 x3) true x133000 x133001)) else (none)) else ((spec_l1In.f x133000 0 10).bind fun t133 => (some t133))
def spec_IsGraph.j1 : Nat → Int → List Int → Bool → Int → List (List Int) → Option (Bool)
 | 0, _, _, _, _, _ => none
 | k + 1, x3, x4, x40, x133000, x133001 => if x40 = true then (some false) else (if x3 > 0 then (if 0 ≤ (wrap64 (x3 - 1)) then (if (wrap64 (x3 - 1)) < (x133001.length : Int) then (if 0 < ((rd_L1 x133001 (wrap64 (x3 - 1))).length : Int) then (if 0 < (x4.length : Int) then (if (rd (rd_L1 x133001 (wrap64 (x3 - 1))) 0) > (rd x4 0) then (some false) else (if (rd (rd_L1 x133001 (wrap64 (x3 - 1))) 0) = (rd x4 0) then (if 1 < ((rd_L1 x133001 (wrap64 (x3 - 1))).length : Int) then (if 1 < (x4.length : Int) then (if (rd (rd_L1 x133001 (wrap64 (x3 - 1))) 1) ≥ (rd x4 1) then (some false) else (spec_IsGraph.l0 k (wrap64 (x3 + 1)) x133000 x133001)) else (none)) else (none)) else (spec_IsGraph.l0 k (wrap64 (x3 + 1)) x133000 x133001))) else (none)) else (none)) else (none)) else (none)) else (spec_IsGraph.l0 k (wrap64 (x3 + 1)) x133000 x133001))
end
def spec_IsGraph.f (k : Nat) (a0_0 : Int) (l0_1 : List (List Int)) : Option (Bool) := spec_IsGraph.l0 k 0 a0_0 l0_1
theorem spec_IsGraph.mono_l : ∀ k, (∀ y0 y1 y2, LeO (spec_IsGraph.l0 k y0 y1 y2) (spec_IsGraph.l0 (k + 1) y0 y1 y2)) ∧ (∀ y0 y1 y2 y3 y4, LeO (spec_IsGraph.j1 k y0 y1 y2 y3 y4) (spec_IsGraph.j1 (k + 1) y0 y1 y2 y3 y4))
 | 0 => ⟨fun _ _ _ r h => by simp [spec_IsGraph.l0] at h, fun _ _ _ _ _ r h => by simp [spec_IsGraph.j1] at h⟩
 | k + 1 => by
  obtain ⟨ih0, ih1⟩ := spec_IsGraph.mono_l k
  refine ⟨?_, ?_⟩
  ·intro y0 y1 y2
   unfold spec_IsGraph.l0
   repeat' first
   | (with_reducible exact ih0 _ _ _)
   | (with_reducible exact ih1 _ _ _ _ _)
   | (with_reducible exact LeO.refl _)
   | (with_reducible exact LeO.none _)
   | (with_reducible refine LeO.ite ?_ ?_)
   | (with_reducible refine LeO.bind ?_ (fun _ => ?_))
   | exact ih0 _ _ _
   | exact ih1 _ _ _ _ _
   | exact LeO.none _
   | refine LeO.ite ?_ ?_
   | refine LeO.bind ?_ (fun _ => ?_)
  ·intro y0 y1 y2 y3 y4
   unfold spec_IsGraph.j1
   repeat' first
   | (with_reducible exact ih0 _ _ _)
   | (with_reducible exact ih1 _ _ _ _ _)
   | (with_reducible exact LeO.refl _)
   | (with_reducible exact LeO.none _)
   | (with_reducible refine LeO.ite ?_ ?_)
   | (with_reducible refine LeO.bind ?_ (fun _ => ?_))
   | exact ih0 _ _ _
   | exact ih1 _ _ _ _ _
   | exact LeO.none _
   | refine LeO.ite ?_ ?_
   | refine LeO.bind ?_ (fun _ => ?_)
theorem spec_IsGraph.mono : ∀ a0 a1 k, LeO (spec_IsGraph.f k a0 a1) (spec_IsGraph.f (k + 1) a0 a1) := by
 intro a0 a1 k
 obtain ⟨ih0, ih1⟩ := spec_IsGraph.mono_l k
 unfold spec_IsGraph.f
 repeat' first
   | (with_reducible exact ih0 _ _ _)
   | (with_reducible exact ih1 _ _ _ _ _)
   | (with_reducible exact LeO.refl _)
   | (with_reducible exact LeO.none _)
   | (with_reducible refine LeO.ite ?_ ?_)
   | (with_reducible refine LeO.bind ?_ (fun _ => ?_))
   | exact ih0 _ _ _
   | exact ih1 _ _ _ _ _
   | exact LeO.none _
   | refine LeO.ite ?_ ?_
   | refine LeO.bind ?_ (fun _ => ?_)
set_option maxHeartbeats 8000000 in
set_option maxRecDepth 100000 in
theorem spec_IsGraph.calls (k : Nat) (a0_0 : Int) (A0_1 : Option Addr) (c0_1 : Nat) (l0_1 : List (List Int)) (r : Bool) (w : World) (hr0_1 : Kd.C (Kd.slice 3 (Kd.int .i64)) w A0_1 l0_1.length l0_1) (hc0_1 : l0_1.length ≤ c0_1) (h : spec_IsGraph.f k a0_0 l0_1 = some r) :
  Calls Try.prog 57 #[.agg #[.int .i64 a0_0, .slice A0_1 l0_1.length c0_1]] w fun e w' => e = .returned (.bool r) ∧ Below w.heap.size w w' := by
 have hu27 := Try.underlying27
 have HR0_1 := Aside0.mk hr0_1
 have HC0_1 := Aside0.mk hc0_1
 clear hr0_1 hc0_1
 have HB := Aside0.mk (Below.refl w.heap.size w)
 have H : (spec_IsGraph.l0 k 0 a0_0 l0_1) = some r := h
 clear h
 have H' := Aside0.mk H
 clear H
 go_enter Try.func57, Try.ntmps57
 go_wp2_with (first | ((with_reducible refine gate_dst (N := 1) rfl ?_); refine box_event ?hg (N := 1) ?hd (cs := #[.int .i64 a0_0, .slice A0_1 l0_1.length c0_1]) (t := 27) ?hr ?_; (case hd => rfl); (case hg => rfl); (case hr => first | (go_simp; done) | (go_simp; rfl)); intro gb132 hg w2 hbox hb; have BK132 := Aside0.mk (hbox); have GW132 := Aside0.mk ((hz_ hg : w.heap.size ≤ gb132)); have GE132 := Aside0.mk ((hz_ hg : w.heap.size ≤ gb132)); replace HB := Aside0.mk (below_step hb_ hb); clear hb hbox hg))
 repeat (go_quiet (first | ((with_reducible refine gate_dst (N := 1) rfl ?_); refine box_event ?hg (N := 1) ?hd (cs := #[.int .i64 a0_0, .slice A0_1 l0_1.length c0_1]) (t := 27) ?hr ?_; (case hd => rfl); (case hg => rfl); (case hr => first | (go_simp; done) | (go_simp; rfl)); intro gb132 hg w2 hbox hb; have BK132 := Aside0.mk (hbox); have GW132 := Aside0.mk ((hz_ hg : w.heap.size ≤ gb132)); have GE132 := Aside0.mk ((hz_ hg : w.heap.size ≤ gb132)); replace HB := Aside0.mk (below_step hb_ hb); clear hb hbox hg)); try go_wp2_with (first | ((with_reducible refine gate_dst (N := 1) rfl ?_); refine box_event ?hg (N := 1) ?hd (cs := #[.int .i64 a0_0, .slice A0_1 l0_1.length c0_1]) (t := 27) ?hr ?_; (case hd => rfl); (case hg => rfl); (case hr => first | (go_simp; done) | (go_simp; rfl)); intro gb132 hg w2 hbox hb; have BK132 := Aside0.mk (hbox); have GW132 := Aside0.mk ((hz_ hg : w.heap.size ≤ gb132)); have GE132 := Aside0.mk ((hz_ hg : w.heap.size ≤ gb132)); replace HB := Aside0.mk (below_step hb_ hb); clear hb hbox hg)))
 go_loopg [3] k (fun kq v3 w' => ∃ (x3_1 : Int), v3 = .int .i64 x3_1 ∧ Aside0 (spec_IsGraph.l0 kq x3_1 a0_0 l0_1 = some r) ∧ Aside0 (kq ≤ k) ∧ Aside0 (w'.heap[gb132]? = some (.cells #[.int .i64 a0_0, (.slice A0_1 l0_1.length c0_1)] 27 (0, 0))) ∧ Aside0 (Below w.heap.size w w'))
 case atStart => exact ⟨(0), sm_, H', ⟨Nat.le_refl _⟩, ⟨bk_ BK132.out⟩, ⟨hb_⟩⟩
 case round =>
  clear H'
  try clear p2
  obtain ⟨x3_1, rfl, HA, HK1, BK132, HB⟩ := hrel
  cases gk with
  | zero => exact absurd HA.out (by simp [spec_IsGraph.l0])
  | succ k1 =>
   have H := HA.out
   clear HA
   simp only [spec_IsGraph.l0] at H
   by_cases c3 : x3_1 < (l0_1.length : Int)
   ·rw [if_pos c3] at H
    have c3b0 : decide (x3_1 < (l0_1.length : Int)) = true := decide_eq_true c3
    clear c3
    by_cases c4 : 0 ≤ x3_1
    ·rw [if_pos c4] at H
     have c4b0 : decide (0 ≤ x3_1) = true := decide_eq_true c4
     clear c4
     have HC5 := Aside0.mk H
     clear H
     have hcz6_0 : wr.cell? ⟨gb132, 0, none⟩ = some (.int .i64 a0_0) := (blk_cell BK132.out 0).trans rfl
     have hcz6_1 : wr.cell? ⟨gb132, 1, none⟩ = some (.slice A0_1 l0_1.length c0_1) := (blk_cell BK132.out 1).trans rfl
     have hfz6_0 := blk_frozen BK132.out 0
     have hfz6_1 := blk_frozen BK132.out 1
     have p134 : 0 ≤ (x3_1 : Int) := of_decide_eq_true as_
     have q134 : x3_1 < (l0_1.length : Int) := of_decide_eq_true as_
     obtain ⟨ad134, A134_0, c134_0, e134, hx134_0, hl134_0, hi134_0⟩ := at_L1 HR0_1.out x3_1 p134 q134
     cases e134
     replace hx134_0 := (HB.out.cell (World.block_lt_of_cell? w _ hx134_0)).trans hx134_0
     have HR134_0 := Aside0.mk hi134_0
     have HC134_0 := Aside0.mk hl134_0
     clear hi134_0 hl134_0
     replace p134 := eq_true p134
     replace q134 := eq_true q134
     go_upto_region 5 with (fail)
     repeat (go_quiet (fail); go_upto_region 5 with (fail))
     go_cut [40] (fun v40 wc => ∃ (kq : Nat) (x40_4 : Bool), v40 = .bool x40_4 ∧ Aside0 (spec_IsGraph.j1 kq x3_1 (rd_L1 l0_1 x3_1) x40_4 a0_0 l0_1 = some r) ∧ Aside0 (kq ≤ k1) ∧ Aside0 (wc.heap[gb132]? = some (.cells #[.int .i64 a0_0, (.slice (some ad134) l0_1.length c0_1)] 27 (0, 0))) ∧ Aside0 (Below w.heap.size w wc))
     case first =>
      have H := HC5.out
      clear HC5
      by_cases c7 : ((rd_L1 l0_1 x3_1).length : Int) = 2
      ·rw [if_pos c7] at H
       have c7b0 : (((rd_L1 l0_1 x3_1).length : Int) == 2) = true := beq_iff_eq.mpr c7
       have c7b1 : (((rd_L1 l0_1 x3_1).length : Int) != 2) = false := bne_eq_false_iff_eq.mpr c7
       clear c7
       (first | rw [c7b0] | (simp only [i64_w, i32_w]; rw [c7b0]) | skip)
       by_cases c8 : 0 < ((rd_L1 l0_1 x3_1).length : Int)
       ·rw [if_pos c8] at H
        have c8b0 : decide (0 < ((rd_L1 l0_1 x3_1).length : Int)) = true := decide_eq_true c8
        have c8b1 : decide (0 < (rd_L1 l0_1 x3_1).length) = true := decide_eq_true (by omega)
        clear c8
        replace H := Option.bind_eq_some_iff.mp H
        obtain ⟨t136, A90, H⟩ := H
        replace H : (if t136 = true then (if 1 < ((rd_L1 l0_1 x3_1).length : Int) then ((spec_l1In.f (rd (rd_L1 l0_1 x3_1) 1) 0 (wrap64 (a0_0 - 1))).bind fun t138 => (spec_IsGraph.j1 k1 x3_1 (rd_L1 l0_1 x3_1) (!t138) a0_0 l0_1)) else (none)) else (spec_IsGraph.j1 k1 x3_1 (rd_L1 l0_1 x3_1) true a0_0 l0_1)) = some r := H
        have A9 := Aside0.mk A90
        clear A90
        by_cases c10 : t136 = true
        ·subst c10
         have H1 : (if 1 < ((rd_L1 l0_1 x3_1).length : Int) then ((spec_l1In.f (rd (rd_L1 l0_1 x3_1) 1) 0 (wrap64 (a0_0 - 1))).bind fun t138 => (spec_IsGraph.j1 k1 x3_1 (rd_L1 l0_1 x3_1) (!t138) a0_0 l0_1)) else (none)) = some r := by rw [if_pos rfl] at H; exact H
         clear H
         have H := H1
         clear H1
         by_cases c11 : 1 < ((rd_L1 l0_1 x3_1).length : Int)
         ·rw [if_pos c11] at H
          have c11b0 : decide (1 < ((rd_L1 l0_1 x3_1).length : Int)) = true := decide_eq_true c11
          have c11b1 : decide (1 < (rd_L1 l0_1 x3_1).length) = true := decide_eq_true (by omega)
          clear c11
          replace H := Option.bind_eq_some_iff.mp H
          obtain ⟨t138, A120, H⟩ := H
          replace H : (spec_IsGraph.j1 k1 x3_1 (rd_L1 l0_1 x3_1) (!t138) a0_0 l0_1) = some r := H
          have A12 := Aside0.mk A120
          clear A120
          have H' := Aside0.mk H
          clear H
          have p135 : 0 ≤ (0 : Int) := (by omega)
          have q135 : 0 < ((rd_L1 l0_1 x3_1).length : Int) := of_decide_eq_true as_
          obtain ⟨ad135, e135, hx135_0⟩ := Kd.at_int HR134_0.out 0 p135 q135
          cases e135
          have qi135 : (0 < (rd_L1 l0_1 x3_1).length) = True := eq_true (by omega)
          (try rw [show ((0 : Int)).toNat = 0 from rfl] at hx135_0)
          (try rw [Addr.add_zero'] at hx135_0)
          replace hx135_0 := (HB.out.cell (World.block_lt_of_cell? w _ hx135_0)).trans hx135_0
          replace p135 := eq_true p135
          replace q135 := eq_true q135
          have hcz13_0 : wr.cell? ⟨gb132, 0, none⟩ = some (.int .i64 a0_0) := (blk_cell BK132.out 0).trans rfl
          have hcz13_1 : wr.cell? ⟨gb132, 1, none⟩ = some (.slice (some ad134) l0_1.length c0_1) := (blk_cell BK132.out 1).trans rfl
          have hfz13_0 := blk_frozen BK132.out 0
          have hfz13_1 := blk_frozen BK132.out 1
          go_wp2_with (first | (go_at_call 58; refine calls_of_args (args' := #[.int .i64 (rd (rd_L1 l0_1 x3_1) 0), .int .i64 0, .int .i64 (wrap64 (a0_0 - 1))]) ?harg ?_; (case harg => first | rfl | (simp only [i64_w, i32_w]; rfl) | (simp only [i64_w, i32_w]; done)); (with_reducible refine (spec_l1In.calls (rd (rd_L1 l0_1 x3_1) 0) 0 (wrap64 (a0_0 - 1)) true _ A9.out).mono ?_); rintro e w' ⟨rfl, ⟨nd, rfl⟩⟩; (try first | exact ⟨rfl, _, World.drewN_drewN _ _ _⟩ | exact ⟨rfl, _, Eq.trans (World.drewN_drewN _ _ _) (congrArg (World.drewN _) (Nat.add_assoc _ _ _))⟩); have p137 : 0 ≤ (1 : Int) := (by omega); have q137 : 1 < ((rd_L1 l0_1 x3_1).length : Int) := of_decide_eq_true as_; obtain ⟨ad137, e137, hx137_0⟩ := Kd.at_int HR134_0.out 1 p137 q137; obtain rfl : ad135 = ad137 := (by injection e137); (try simp only [show (1 : Int).toNat = 1 from rfl, Nat.reduceMul, Nat.reduceEqDiff, Go.Addr.add, ↓reduceIte] at hx137_0); have qi137 : (1 < (rd_L1 l0_1 x3_1).length) = True := eq_true (by omega); (try rw [show ((1 : Int)).toNat = 1 from rfl] at hx137_0); replace hx137_0 := (HB.out.cell (World.block_lt_of_cell? w _ hx137_0)).trans hx137_0; replace p137 := eq_true p137; replace q137 := eq_true q137) | (go_at_call 58; refine calls_of_args (args' := #[.int .i64 (rd (rd_L1 l0_1 x3_1) 1), .int .i64 0, .int .i64 (wrap64 (a0_0 - 1))]) ?harg ?_; (case harg => first | rfl | (simp only [i64_w, i32_w]; rfl) | (simp only [i64_w, i32_w]; done)); (with_reducible refine (spec_l1In.calls (rd (rd_L1 l0_1 x3_1) 1) 0 (wrap64 (a0_0 - 1)) t138 _ A12.out).mono ?_); rintro e w' ⟨rfl, ⟨nd, rfl⟩⟩; (try first | exact ⟨rfl, _, World.drewN_drewN _ _ _⟩ | exact ⟨rfl, _, Eq.trans (World.drewN_drewN _ _ _) (congrArg (World.drewN _) (Nat.add_assoc _ _ _))⟩)))
          repeat (go_quiet (first | (go_at_call 58; refine calls_of_args (args' := #[.int .i64 (rd (rd_L1 l0_1 x3_1) 0), .int .i64 0, .int .i64 (wrap64 (a0_0 - 1))]) ?harg ?_; (case harg => first | rfl | (simp only [i64_w, i32_w]; rfl) | (simp only [i64_w, i32_w]; done)); (with_reducible refine (spec_l1In.calls (rd (rd_L1 l0_1 x3_1) 0) 0 (wrap64 (a0_0 - 1)) true _ A9.out).mono ?_); rintro e w' ⟨rfl, ⟨nd, rfl⟩⟩; (try first | exact ⟨rfl, _, World.drewN_drewN _ _ _⟩ | exact ⟨rfl, _, Eq.trans (World.drewN_drewN _ _ _) (congrArg (World.drewN _) (Nat.add_assoc _ _ _))⟩); have p137 : 0 ≤ (1 : Int) := (by omega); have q137 : 1 < ((rd_L1 l0_1 x3_1).length : Int) := of_decide_eq_true as_; obtain ⟨ad137, e137, hx137_0⟩ := Kd.at_int HR134_0.out 1 p137 q137; obtain rfl : ad135 = ad137 := (by injection e137); (try simp only [show (1 : Int).toNat = 1 from rfl, Nat.reduceMul, Nat.reduceEqDiff, Go.Addr.add, ↓reduceIte] at hx137_0); have qi137 : (1 < (rd_L1 l0_1 x3_1).length) = True := eq_true (by omega); (try rw [show ((1 : Int)).toNat = 1 from rfl] at hx137_0); replace hx137_0 := (HB.out.cell (World.block_lt_of_cell? w _ hx137_0)).trans hx137_0; replace p137 := eq_true p137; replace q137 := eq_true q137) | (go_at_call 58; refine calls_of_args (args' := #[.int .i64 (rd (rd_L1 l0_1 x3_1) 1), .int .i64 0, .int .i64 (wrap64 (a0_0 - 1))]) ?harg ?_; (case harg => first | rfl | (simp only [i64_w, i32_w]; rfl) | (simp only [i64_w, i32_w]; done)); (with_reducible refine (spec_l1In.calls (rd (rd_L1 l0_1 x3_1) 1) 0 (wrap64 (a0_0 - 1)) t138 _ A12.out).mono ?_); rintro e w' ⟨rfl, ⟨nd, rfl⟩⟩; (try first | exact ⟨rfl, _, World.drewN_drewN _ _ _⟩ | exact ⟨rfl, _, Eq.trans (World.drewN_drewN _ _ _) (congrArg (World.drewN _) (Nat.add_assoc _ _ _))⟩))); try go_wp2_with (first | (go_at_call 58; refine calls_of_args (args' := #[.int .i64 (rd (rd_L1 l0_1 x3_1) 0), .int .i64 0, .int .i64 (wrap64 (a0_0 - 1))]) ?harg ?_; (case harg => first | rfl | (simp only [i64_w, i32_w]; rfl) | (simp only [i64_w, i32_w]; done)); (with_reducible refine (spec_l1In.calls (rd (rd_L1 l0_1 x3_1) 0) 0 (wrap64 (a0_0 - 1)) true _ A9.out).mono ?_); rintro e w' ⟨rfl, ⟨nd, rfl⟩⟩; (try first | exact ⟨rfl, _, World.drewN_drewN _ _ _⟩ | exact ⟨rfl, _, Eq.trans (World.drewN_drewN _ _ _) (congrArg (World.drewN _) (Nat.add_assoc _ _ _))⟩); have p137 : 0 ≤ (1 : Int) := (by omega); have q137 : 1 < ((rd_L1 l0_1 x3_1).length : Int) := of_decide_eq_true as_; obtain ⟨ad137, e137, hx137_0⟩ := Kd.at_int HR134_0.out 1 p137 q137; obtain rfl : ad135 = ad137 := (by injection e137); (try simp only [show (1 : Int).toNat = 1 from rfl, Nat.reduceMul, Nat.reduceEqDiff, Go.Addr.add, ↓reduceIte] at hx137_0); have qi137 : (1 < (rd_L1 l0_1 x3_1).length) = True := eq_true (by omega); (try rw [show ((1 : Int)).toNat = 1 from rfl] at hx137_0); replace hx137_0 := (HB.out.cell (World.block_lt_of_cell? w _ hx137_0)).trans hx137_0; replace p137 := eq_true p137; replace q137 := eq_true q137) | (go_at_call 58; refine calls_of_args (args' := #[.int .i64 (rd (rd_L1 l0_1 x3_1) 1), .int .i64 0, .int .i64 (wrap64 (a0_0 - 1))]) ?harg ?_; (case harg => first | rfl | (simp only [i64_w, i32_w]; rfl) | (simp only [i64_w, i32_w]; done)); (with_reducible refine (spec_l1In.calls (rd (rd_L1 l0_1 x3_1) 1) 0 (wrap64 (a0_0 - 1)) t138 _ A12.out).mono ?_); rintro e w' ⟨rfl, ⟨nd, rfl⟩⟩; (try first | exact ⟨rfl, _, World.drewN_drewN _ _ _⟩ | exact ⟨rfl, _, Eq.trans (World.drewN_drewN _ _ _) (congrArg (World.drewN _) (Nat.add_assoc _ _ _))⟩))))
          go_meet
          case rel => exact ⟨_, (!t138), sm_, H', ⟨by have := HK1.out; first | omega | exact Nat.le_refl _⟩, ⟨bk_ BK132.out⟩, ⟨hb_⟩⟩
         ·rw [if_neg c11] at H
          exact absurd H (by simp)
        ·replace c10 := Bool.eq_false_iff.mpr c10
         subst c10
         have H1 : (spec_IsGraph.j1 k1 x3_1 (rd_L1 l0_1 x3_1) true a0_0 l0_1) = some r := by rw [if_neg (show ¬ (false = true) by decide)] at H; exact H
         clear H
         have H := H1
         clear H1
         have H' := Aside0.mk H
         clear H
         have p135 : 0 ≤ (0 : Int) := (by omega)
         have q135 : 0 < ((rd_L1 l0_1 x3_1).length : Int) := of_decide_eq_true as_
         obtain ⟨ad135, e135, hx135_0⟩ := Kd.at_int HR134_0.out 0 p135 q135
         cases e135
         have qi135 : (0 < (rd_L1 l0_1 x3_1).length) = True := eq_true (by omega)
         (try rw [show ((0 : Int)).toNat = 0 from rfl] at hx135_0)
         (try rw [Addr.add_zero'] at hx135_0)
         replace hx135_0 := (HB.out.cell (World.block_lt_of_cell? w _ hx135_0)).trans hx135_0
         replace p135 := eq_true p135
         replace q135 := eq_true q135
         have hcz14_0 : wr.cell? ⟨gb132, 0, none⟩ = some (.int .i64 a0_0) := (blk_cell BK132.out 0).trans rfl
         have hcz14_1 : wr.cell? ⟨gb132, 1, none⟩ = some (.slice (some ad134) l0_1.length c0_1) := (blk_cell BK132.out 1).trans rfl
         have hfz14_0 := blk_frozen BK132.out 0
         have hfz14_1 := blk_frozen BK132.out 1
         go_wp2_with (first | (go_at_call 58; refine calls_of_args (args' := #[.int .i64 (rd (rd_L1 l0_1 x3_1) 0), .int .i64 0, .int .i64 (wrap64 (a0_0 - 1))]) ?harg ?_; (case harg => first | rfl | (simp only [i64_w, i32_w]; rfl) | (simp only [i64_w, i32_w]; done)); (with_reducible refine (spec_l1In.calls (rd (rd_L1 l0_1 x3_1) 0) 0 (wrap64 (a0_0 - 1)) false _ A9.out).mono ?_); rintro e w' ⟨rfl, ⟨nd, rfl⟩⟩; (try first | exact ⟨rfl, _, World.drewN_drewN _ _ _⟩ | exact ⟨rfl, _, Eq.trans (World.drewN_drewN _ _ _) (congrArg (World.drewN _) (Nat.add_assoc _ _ _))⟩)))
         repeat (go_quiet (first | (go_at_call 58; refine calls_of_args (args' := #[.int .i64 (rd (rd_L1 l0_1 x3_1) 0), .int .i64 0, .int .i64 (wrap64 (a0_0 - 1))]) ?harg ?_; (case harg => first | rfl | (simp only [i64_w, i32_w]; rfl) | (simp only [i64_w, i32_w]; done)); (with_reducible refine (spec_l1In.calls (rd (rd_L1 l0_1 x3_1) 0) 0 (wrap64 (a0_0 - 1)) false _ A9.out).mono ?_); rintro e w' ⟨rfl, ⟨nd, rfl⟩⟩; (try first | exact ⟨rfl, _, World.drewN_drewN _ _ _⟩ | exact ⟨rfl, _, Eq.trans (World.drewN_drewN _ _ _) (congrArg (World.drewN _) (Nat.add_assoc _ _ _))⟩))); try go_wp2_with (first | (go_at_call 58; refine calls_of_args (args' := #[.int .i64 (rd (rd_L1 l0_1 x3_1) 0), .int .i64 0, .int .i64 (wrap64 (a0_0 - 1))]) ?harg ?_; (case harg => first | rfl | (simp only [i64_w, i32_w]; rfl) | (simp only [i64_w, i32_w]; done)); (with_reducible refine (spec_l1In.calls (rd (rd_L1 l0_1 x3_1) 0) 0 (wrap64 (a0_0 - 1)) false _ A9.out).mono ?_); rintro e w' ⟨rfl, ⟨nd, rfl⟩⟩; (try first | exact ⟨rfl, _, World.drewN_drewN _ _ _⟩ | exact ⟨rfl, _, Eq.trans (World.drewN_drewN _ _ _) (congrArg (World.drewN _) (Nat.add_assoc _ _ _))⟩))))
         go_meet
         case rel => exact ⟨_, (true), sm_, H', ⟨by have := HK1.out; first | omega | exact Nat.le_refl _⟩, ⟨bk_ BK132.out⟩, ⟨hb_⟩⟩
       ·rw [if_neg c8] at H
        exact absurd H (by simp)
      ·rw [if_neg c7] at H
       have c7b0 : (((rd_L1 l0_1 x3_1).length : Int) == 2) = false := beq_eq_false_iff_ne.mpr c7
       have c7b1 : (((rd_L1 l0_1 x3_1).length : Int) != 2) = true := bne_iff_ne.mpr c7
       (first | rw [c7b0] | (simp only [i64_w, i32_w]; rw [c7b0]) | skip)
       have H' := Aside0.mk H
       clear H
       go_wp2
       repeat (go_quiet (fail); try go_wp2)
       go_meet
       case rel => exact ⟨_, (true), sm_, H', ⟨by have := HK1.out; first | omega | exact Nat.le_refl _⟩, ⟨bk_ BK132.out⟩, ⟨hb_⟩⟩
     case rest =>
      clear HC5
      try clear c1
      try clear p1
      try clear q1
      try clear hx1
      try clear qi1
      try clear p2
      try clear c3
      try clear c3b0
      try clear c4
      try clear c4b0
      try clear c5
      try clear p6
      try clear c7
      try clear c7b0
      try clear c7b1
      try clear c8
      try clear c8b0
      try clear c8b1
      try clear c10
      try clear c11
      try clear c11b0
      try clear c11b1
      try clear c13
      try clear p13
      try clear q13
      try clear hx13
      try clear qi13
      try clear hcz13_0
      try clear hcz13_1
      try clear hcz14_0
      try clear hcz14_1
      try clear hcz6_0
      try clear hcz6_1
      try clear hfz13_0
      try clear hfz13_1
      try clear hfz14_0
      try clear hfz14_1
      try clear hfz6_0
      try clear hfz6_1
      try clear hx134_0
      try clear hx135_0
      try clear hx137_0
      try clear p134
      try clear p135
      try clear p137
      try clear p2
      try clear q134
      try clear q135
      try clear q137
      obtain ⟨kq, x40_4, rfl, HA, HJ4, BK132, HB⟩ := hcut
      cases kq with
      | zero => exact absurd HA.out (by simp [spec_IsGraph.j1])
      | succ kj4 =>
       have H := HA.out
       clear HA
       simp only [spec_IsGraph.j1] at H
       by_cases c15 : x40_4 = true
       ·subst c15
        have H1 : (some false) = some r := by rw [if_pos rfl] at H; exact H
        clear H
        have H := H1
        clear H1
        obtain rfl := Option.some.inj H
        go_wp2
        repeat (go_quiet (fail); try go_wp2)
        go_ret
        exact ⟨er_, hb_⟩
       ·replace c15 := Bool.eq_false_iff.mpr c15
        subst c15
        have H1 : (if x3_1 > 0 then (if 0 ≤ (wrap64 (x3_1 - 1)) then (if (wrap64 (x3_1 - 1)) < (l0_1.length : Int) then (if 0 < ((rd_L1 l0_1 (wrap64 (x3_1 - 1))).length : Int) then (if 0 < ((rd_L1 l0_1 x3_1).length : Int) then (if (rd (rd_L1 l0_1 (wrap64 (x3_1 - 1))) 0) > (rd (rd_L1 l0_1 x3_1) 0) then (some false) else (if (rd (rd_L1 l0_1 (wrap64 (x3_1 - 1))) 0) = (rd (rd_L1 l0_1 x3_1) 0) then (if 1 < ((rd_L1 l0_1 (wrap64 (x3_1 - 1))).length : Int) then (if 1 < ((rd_L1 l0_1 x3_1).length : Int) then (if (rd (rd_L1 l0_1 (wrap64 (x3_1 - 1))) 1) ≥ (rd (rd_L1 l0_1 x3_1) 1) then (some false) else (spec_IsGraph.l0 kj4 (wrap64 (x3_1 + 1)) a0_0 l0_1)) else (none)) else (none)) else (spec_IsGraph.l0 kj4 (wrap64 (x3_1 + 1)) a0_0 l0_1))) else (none)) else (none)) else (none)) else (none)) else (spec_IsGraph.l0 kj4 (wrap64 (x3_1 + 1)) a0_0 l0_1)) = some r := by rw [if_neg (show ¬ (false = true) by decide)] at H; exact H
        clear H
        have H := H1
        clear H1
        by_cases c16 : x3_1 > 0
        ·rw [if_pos c16] at H
         have c16b0 : decide (0 < x3_1) = true := decide_eq_true c16
         clear c16
         obtain ⟨ji17, hji17⟩ : ∃ j_ : Int, (wrap64 (x3_1 - 1)) = j_ := ⟨_, rfl⟩
         replace H : (if 0 ≤ (ji17) then (if (ji17) < (l0_1.length : Int) then (if 0 < ((rd_L1 l0_1 (ji17)).length : Int) then (if 0 < ((rd_L1 l0_1 x3_1).length : Int) then (if (rd (rd_L1 l0_1 (ji17)) 0) > (rd (rd_L1 l0_1 x3_1) 0) then (some false) else (if (rd (rd_L1 l0_1 (ji17)) 0) = (rd (rd_L1 l0_1 x3_1) 0) then (if 1 < ((rd_L1 l0_1 (ji17)).length : Int) then (if 1 < ((rd_L1 l0_1 x3_1).length : Int) then (if (rd (rd_L1 l0_1 (ji17)) 1) ≥ (rd (rd_L1 l0_1 x3_1) 1) then (some false) else (spec_IsGraph.l0 kj4 (wrap64 (x3_1 + 1)) a0_0 l0_1)) else (none)) else (none)) else (spec_IsGraph.l0 kj4 (wrap64 (x3_1 + 1)) a0_0 l0_1))) else (none)) else (none)) else (none)) else (none)) = some r := by first | (rw [hji17] at H; exact H) | (simp only [hji17] at H ⊢; exact H)
         have hji17w : (IntKind.i64.wrap (x3_1 - 1)) = ji17 := (i64_w _).trans hji17
         by_cases c18 : 0 ≤ (ji17)
         ·rw [if_pos c18] at H
          have c18b0 : decide (0 ≤ (ji17)) = true := decide_eq_true c18
          clear c18
          by_cases c19 : (ji17) < (l0_1.length : Int)
          ·rw [if_pos c19] at H
           have c19b0 : decide ((ji17) < (l0_1.length : Int)) = true := decide_eq_true c19
           clear c19
           by_cases c20 : 0 < ((rd_L1 l0_1 (ji17)).length : Int)
           ·rw [if_pos c20] at H
            have c20b0 : decide (0 < ((rd_L1 l0_1 (ji17)).length : Int)) = true := decide_eq_true c20
            have c20b1 : decide (0 < (rd_L1 l0_1 (ji17)).length) = true := decide_eq_true (by omega)
            clear c20
            by_cases c21 : 0 < ((rd_L1 l0_1 x3_1).length : Int)
            ·rw [if_pos c21] at H
             have c21b0 : decide (0 < ((rd_L1 l0_1 x3_1).length : Int)) = true := decide_eq_true c21
             have c21b1 : decide (0 < (rd_L1 l0_1 x3_1).length) = true := decide_eq_true (by omega)
             clear c21
             by_cases c22 : (rd (rd_L1 l0_1 (ji17)) 0) > (rd (rd_L1 l0_1 x3_1) 0)
             ·rw [if_pos c22] at H
              have c22b0 : decide ((rd (rd_L1 l0_1 x3_1) 0) < (rd (rd_L1 l0_1 (ji17)) 0)) = true := decide_eq_true c22
              clear c22
              obtain rfl := Option.some.inj H
              have hcz23_0 : wc.cell? ⟨gb132, 0, none⟩ = some (.int .i64 a0_0) := (blk_cell BK132.out 0).trans rfl
              have hcz23_1 : wc.cell? ⟨gb132, 1, none⟩ = some (.slice (some ad134) l0_1.length c0_1) := (blk_cell BK132.out 1).trans rfl
              have hfz23_0 := blk_frozen BK132.out 0
              have hfz23_1 := blk_frozen BK132.out 1
              have p139 : 0 ≤ ((ji17) : Int) := of_decide_eq_true as_
              have q139 : (ji17) < (l0_1.length : Int) := of_decide_eq_true as_
              obtain ⟨ad139, A139_0, c139_0, e139, hx139_0, hl139_0, hi139_0⟩ := at_L1 HR0_1.out (ji17) p139 q139
              obtain rfl : ad134 = ad139 := (by injection e139)
              replace hx139_0 := (HB.out.cell (World.block_lt_of_cell? w _ hx139_0)).trans hx139_0
              have HR139_0 := Aside0.mk hi139_0
              have HC139_0 := Aside0.mk hl139_0
              clear hi139_0 hl139_0
              replace p139 := eq_true p139
              replace q139 := eq_true q139
              have p140 : 0 ≤ (0 : Int) := (by omega)
              have q140 : 0 < ((rd_L1 l0_1 (ji17)).length : Int) := of_decide_eq_true as_
              obtain ⟨ad140, e140, hx140_0⟩ := Kd.at_int HR139_0.out 0 p140 q140
              cases e140
              have qi140 : (0 < (rd_L1 l0_1 (ji17)).length) = True := eq_true (by omega)
              (try rw [show ((0 : Int)).toNat = 0 from rfl] at hx140_0)
              (try rw [Addr.add_zero'] at hx140_0)
              replace hx140_0 := (HB.out.cell (World.block_lt_of_cell? w _ hx140_0)).trans hx140_0
              replace p140 := eq_true p140
              replace q140 := eq_true q140
              have p141 : 0 ≤ (0 : Int) := (by omega)
              have q141 : 0 < ((rd_L1 l0_1 x3_1).length : Int) := of_decide_eq_true as_
              obtain ⟨ad141, e141, hx141_0⟩ := Kd.at_int HR134_0.out 0 p141 q141
              cases e141
              have qi141 : (0 < (rd_L1 l0_1 x3_1).length) = True := eq_true (by omega)
              (try rw [show ((0 : Int)).toNat = 0 from rfl] at hx141_0)
              (try rw [Addr.add_zero'] at hx141_0)
              replace hx141_0 := (HB.out.cell (World.block_lt_of_cell? w _ hx141_0)).trans hx141_0
              replace p141 := eq_true p141
              replace q141 := eq_true q141
              go_wp2
              repeat (go_quiet (fail); try go_wp2)
              go_ret
              exact ⟨by first | rfl | (simp [errW_none, errW_some] <;> rfl) | (simp only [← hji17]; first | rfl | (simp [errW_none, errW_some] <;> rfl)) | (simp [*, errW_none, errW_some] <;> rfl), hb_⟩
             ·rw [if_neg c22] at H
              have c22b0 : decide ((rd (rd_L1 l0_1 x3_1) 0) < (rd (rd_L1 l0_1 (ji17)) 0)) = false := decide_eq_false c22
              clear c22
              by_cases c24 : (rd (rd_L1 l0_1 (ji17)) 0) = (rd (rd_L1 l0_1 x3_1) 0)
              ·rw [if_pos c24] at H
               have c24b0 : ((rd (rd_L1 l0_1 (ji17)) 0) == (rd (rd_L1 l0_1 x3_1) 0)) = true := beq_iff_eq.mpr c24
               have c24b1 : ((rd (rd_L1 l0_1 (ji17)) 0) != (rd (rd_L1 l0_1 x3_1) 0)) = false := bne_eq_false_iff_eq.mpr c24
               clear c24
               by_cases c25 : 1 < ((rd_L1 l0_1 (ji17)).length : Int)
               ·rw [if_pos c25] at H
                have c25b0 : decide (1 < ((rd_L1 l0_1 (ji17)).length : Int)) = true := decide_eq_true c25
                have c25b1 : decide (1 < (rd_L1 l0_1 (ji17)).length) = true := decide_eq_true (by omega)
                clear c25
                by_cases c26 : 1 < ((rd_L1 l0_1 x3_1).length : Int)
                ·rw [if_pos c26] at H
                 have c26b0 : decide (1 < ((rd_L1 l0_1 x3_1).length : Int)) = true := decide_eq_true c26
                 have c26b1 : decide (1 < (rd_L1 l0_1 x3_1).length) = true := decide_eq_true (by omega)
                 clear c26
                 by_cases c27 : (rd (rd_L1 l0_1 (ji17)) 1) ≥ (rd (rd_L1 l0_1 x3_1) 1)
                 ·rw [if_pos c27] at H
                  have c27b0 : decide ((rd (rd_L1 l0_1 x3_1) 1) ≤ (rd (rd_L1 l0_1 (ji17)) 1)) = true := decide_eq_true c27
                  clear c27
                  obtain rfl := Option.some.inj H
                  have hcz28_0 : wc.cell? ⟨gb132, 0, none⟩ = some (.int .i64 a0_0) := (blk_cell BK132.out 0).trans rfl
                  have hcz28_1 : wc.cell? ⟨gb132, 1, none⟩ = some (.slice (some ad134) l0_1.length c0_1) := (blk_cell BK132.out 1).trans rfl
                  have hfz28_0 := blk_frozen BK132.out 0
                  have hfz28_1 := blk_frozen BK132.out 1
                  have p139 : 0 ≤ ((ji17) : Int) := of_decide_eq_true as_
                  have q139 : (ji17) < (l0_1.length : Int) := of_decide_eq_true as_
                  obtain ⟨ad139, A139_0, c139_0, e139, hx139_0, hl139_0, hi139_0⟩ := at_L1 HR0_1.out (ji17) p139 q139
                  obtain rfl : ad134 = ad139 := (by injection e139)
                  replace hx139_0 := (HB.out.cell (World.block_lt_of_cell? w _ hx139_0)).trans hx139_0
                  have HR139_0 := Aside0.mk hi139_0
                  have HC139_0 := Aside0.mk hl139_0
                  clear hi139_0 hl139_0
                  replace p139 := eq_true p139
                  replace q139 := eq_true q139
                  have p140 : 0 ≤ (0 : Int) := (by omega)
                  have q140 : 0 < ((rd_L1 l0_1 (ji17)).length : Int) := of_decide_eq_true as_
                  obtain ⟨ad140, e140, hx140_0⟩ := Kd.at_int HR139_0.out 0 p140 q140
                  cases e140
                  have qi140 : (0 < (rd_L1 l0_1 (ji17)).length) = True := eq_true (by omega)
                  (try rw [show ((0 : Int)).toNat = 0 from rfl] at hx140_0)
                  (try rw [Addr.add_zero'] at hx140_0)
                  replace hx140_0 := (HB.out.cell (World.block_lt_of_cell? w _ hx140_0)).trans hx140_0
                  replace p140 := eq_true p140
                  replace q140 := eq_true q140
                  have p141 : 0 ≤ (0 : Int) := (by omega)
                  have q141 : 0 < ((rd_L1 l0_1 x3_1).length : Int) := of_decide_eq_true as_
                  obtain ⟨ad141, e141, hx141_0⟩ := Kd.at_int HR134_0.out 0 p141 q141
                  cases e141
                  have qi141 : (0 < (rd_L1 l0_1 x3_1).length) = True := eq_true (by omega)
                  (try rw [show ((0 : Int)).toNat = 0 from rfl] at hx141_0)
                  (try rw [Addr.add_zero'] at hx141_0)
                  replace hx141_0 := (HB.out.cell (World.block_lt_of_cell? w _ hx141_0)).trans hx141_0
                  replace p141 := eq_true p141
                  replace q141 := eq_true q141
                  have p142 : 0 ≤ (0 : Int) := (by omega)
                  have q142 : 0 < ((rd_L1 l0_1 (ji17)).length : Int) := of_decide_eq_true as_
                  obtain ⟨ad142, e142, hx142_0⟩ := Kd.at_int HR139_0.out 0 p142 q142
                  obtain rfl : ad140 = ad142 := (by injection e142)
                  have qi142 : (0 < (rd_L1 l0_1 (ji17)).length) = True := eq_true (by omega)
                  (try rw [show ((0 : Int)).toNat = 0 from rfl] at hx142_0)
                  (try rw [Addr.add_zero'] at hx142_0)
                  replace hx142_0 := (HB.out.cell (World.block_lt_of_cell? w _ hx142_0)).trans hx142_0
                  replace p142 := eq_true p142
                  replace q142 := eq_true q142
                  have p143 : 0 ≤ (0 : Int) := (by omega)
                  have q143 : 0 < ((rd_L1 l0_1 x3_1).length : Int) := of_decide_eq_true as_
                  obtain ⟨ad143, e143, hx143_0⟩ := Kd.at_int HR134_0.out 0 p143 q143
                  obtain rfl : ad141 = ad143 := (by injection e143)
                  have qi143 : (0 < (rd_L1 l0_1 x3_1).length) = True := eq_true (by omega)
                  (try rw [show ((0 : Int)).toNat = 0 from rfl] at hx143_0)
                  (try rw [Addr.add_zero'] at hx143_0)
                  replace hx143_0 := (HB.out.cell (World.block_lt_of_cell? w _ hx143_0)).trans hx143_0
                  replace p143 := eq_true p143
                  replace q143 := eq_true q143
                  have p144 : 0 ≤ (1 : Int) := (by omega)
                  have q144 : 1 < ((rd_L1 l0_1 (ji17)).length : Int) := of_decide_eq_true as_
                  obtain ⟨ad144, e144, hx144_0⟩ := Kd.at_int HR139_0.out 1 p144 q144
                  obtain rfl : ad140 = ad144 := (by injection e144)
                  (try simp only [show (1 : Int).toNat = 1 from rfl, Nat.reduceMul, Nat.reduceEqDiff, Go.Addr.add, ↓reduceIte] at hx144_0)
                  have qi144 : (1 < (rd_L1 l0_1 (ji17)).length) = True := eq_true (by omega)
                  (try rw [show ((1 : Int)).toNat = 1 from rfl] at hx144_0)
                  replace hx144_0 := (HB.out.cell (World.block_lt_of_cell? w _ hx144_0)).trans hx144_0
                  replace p144 := eq_true p144
                  replace q144 := eq_true q144
                  have p145 : 0 ≤ (1 : Int) := (by omega)
                  have q145 : 1 < ((rd_L1 l0_1 x3_1).length : Int) := of_decide_eq_true as_
                  obtain ⟨ad145, e145, hx145_0⟩ := Kd.at_int HR134_0.out 1 p145 q145
                  obtain rfl : ad141 = ad145 := (by injection e145)
                  (try simp only [show (1 : Int).toNat = 1 from rfl, Nat.reduceMul, Nat.reduceEqDiff, Go.Addr.add, ↓reduceIte] at hx145_0)
                  have qi145 : (1 < (rd_L1 l0_1 x3_1).length) = True := eq_true (by omega)
                  (try rw [show ((1 : Int)).toNat = 1 from rfl] at hx145_0)
                  replace hx145_0 := (HB.out.cell (World.block_lt_of_cell? w _ hx145_0)).trans hx145_0
                  replace p145 := eq_true p145
                  replace q145 := eq_true q145
                  go_wp2
                  repeat (go_quiet (fail); try go_wp2)
                  go_ret
                  exact ⟨by first | rfl | (simp [errW_none, errW_some] <;> rfl) | (simp only [← hji17]; first | rfl | (simp [errW_none, errW_some] <;> rfl)) | (simp [*, errW_none, errW_some] <;> rfl), hb_⟩
                 ·rw [if_neg c27] at H
                  have c27b0 : decide ((rd (rd_L1 l0_1 x3_1) 1) ≤ (rd (rd_L1 l0_1 (ji17)) 1)) = false := decide_eq_false c27
                  clear c27
                  have H' := Aside0.mk H
                  clear H
                  have hcz29_0 : wc.cell? ⟨gb132, 0, none⟩ = some (.int .i64 a0_0) := (blk_cell BK132.out 0).trans rfl
                  have hcz29_1 : wc.cell? ⟨gb132, 1, none⟩ = some (.slice (some ad134) l0_1.length c0_1) := (blk_cell BK132.out 1).trans rfl
                  have hfz29_0 := blk_frozen BK132.out 0
                  have hfz29_1 := blk_frozen BK132.out 1
                  have p139 : 0 ≤ ((ji17) : Int) := of_decide_eq_true as_
                  have q139 : (ji17) < (l0_1.length : Int) := of_decide_eq_true as_
                  obtain ⟨ad139, A139_0, c139_0, e139, hx139_0, hl139_0, hi139_0⟩ := at_L1 HR0_1.out (ji17) p139 q139
                  obtain rfl : ad134 = ad139 := (by injection e139)
                  replace hx139_0 := (HB.out.cell (World.block_lt_of_cell? w _ hx139_0)).trans hx139_0
                  have HR139_0 := Aside0.mk hi139_0
                  have HC139_0 := Aside0.mk hl139_0
                  clear hi139_0 hl139_0
                  replace p139 := eq_true p139
                  replace q139 := eq_true q139
                  have p140 : 0 ≤ (0 : Int) := (by omega)
                  have q140 : 0 < ((rd_L1 l0_1 (ji17)).length : Int) := of_decide_eq_true as_
                  obtain ⟨ad140, e140, hx140_0⟩ := Kd.at_int HR139_0.out 0 p140 q140
                  cases e140
                  have qi140 : (0 < (rd_L1 l0_1 (ji17)).length) = True := eq_true (by omega)
                  (try rw [show ((0 : Int)).toNat = 0 from rfl] at hx140_0)
                  (try rw [Addr.add_zero'] at hx140_0)
                  replace hx140_0 := (HB.out.cell (World.block_lt_of_cell? w _ hx140_0)).trans hx140_0
                  replace p140 := eq_true p140
                  replace q140 := eq_true q140
                  have p141 : 0 ≤ (0 : Int) := (by omega)
                  have q141 : 0 < ((rd_L1 l0_1 x3_1).length : Int) := of_decide_eq_true as_
                  obtain ⟨ad141, e141, hx141_0⟩ := Kd.at_int HR134_0.out 0 p141 q141
                  cases e141
                  have qi141 : (0 < (rd_L1 l0_1 x3_1).length) = True := eq_true (by omega)
                  (try rw [show ((0 : Int)).toNat = 0 from rfl] at hx141_0)
                  (try rw [Addr.add_zero'] at hx141_0)
                  replace hx141_0 := (HB.out.cell (World.block_lt_of_cell? w _ hx141_0)).trans hx141_0
                  replace p141 := eq_true p141
                  replace q141 := eq_true q141
                  have p142 : 0 ≤ (0 : Int) := (by omega)
                  have q142 : 0 < ((rd_L1 l0_1 (ji17)).length : Int) := of_decide_eq_true as_
                  obtain ⟨ad142, e142, hx142_0⟩ := Kd.at_int HR139_0.out 0 p142 q142
                  obtain rfl : ad140 = ad142 := (by injection e142)
                  have qi142 : (0 < (rd_L1 l0_1 (ji17)).length) = True := eq_true (by omega)
                  (try rw [show ((0 : Int)).toNat = 0 from rfl] at hx142_0)
                  (try rw [Addr.add_zero'] at hx142_0)
                  replace hx142_0 := (HB.out.cell (World.block_lt_of_cell? w _ hx142_0)).trans hx142_0
                  replace p142 := eq_true p142
                  replace q142 := eq_true q142
                  have p143 : 0 ≤ (0 : Int) := (by omega)
                  have q143 : 0 < ((rd_L1 l0_1 x3_1).length : Int) := of_decide_eq_true as_
                  obtain ⟨ad143, e143, hx143_0⟩ := Kd.at_int HR134_0.out 0 p143 q143
                  obtain rfl : ad141 = ad143 := (by injection e143)
                  have qi143 : (0 < (rd_L1 l0_1 x3_1).length) = True := eq_true (by omega)
                  (try rw [show ((0 : Int)).toNat = 0 from rfl] at hx143_0)
                  (try rw [Addr.add_zero'] at hx143_0)
                  replace hx143_0 := (HB.out.cell (World.block_lt_of_cell? w _ hx143_0)).trans hx143_0
                  replace p143 := eq_true p143
                  replace q143 := eq_true q143
                  have p144 : 0 ≤ (1 : Int) := (by omega)
                  have q144 : 1 < ((rd_L1 l0_1 (ji17)).length : Int) := of_decide_eq_true as_
                  obtain ⟨ad144, e144, hx144_0⟩ := Kd.at_int HR139_0.out 1 p144 q144
                  obtain rfl : ad140 = ad144 := (by injection e144)
                  (try simp only [show (1 : Int).toNat = 1 from rfl, Nat.reduceMul, Nat.reduceEqDiff, Go.Addr.add, ↓reduceIte] at hx144_0)
                  have qi144 : (1 < (rd_L1 l0_1 (ji17)).length) = True := eq_true (by omega)
                  (try rw [show ((1 : Int)).toNat = 1 from rfl] at hx144_0)
                  replace hx144_0 := (HB.out.cell (World.block_lt_of_cell? w _ hx144_0)).trans hx144_0
                  replace p144 := eq_true p144
                  replace q144 := eq_true q144
                  have p145 : 0 ≤ (1 : Int) := (by omega)
                  have q145 : 1 < ((rd_L1 l0_1 x3_1).length : Int) := of_decide_eq_true as_
                  obtain ⟨ad145, e145, hx145_0⟩ := Kd.at_int HR134_0.out 1 p145 q145
                  obtain rfl : ad141 = ad145 := (by injection e145)
                  (try simp only [show (1 : Int).toNat = 1 from rfl, Nat.reduceMul, Nat.reduceEqDiff, Go.Addr.add, ↓reduceIte] at hx145_0)
                  have qi145 : (1 < (rd_L1 l0_1 x3_1).length) = True := eq_true (by omega)
                  (try rw [show ((1 : Int)).toNat = 1 from rfl] at hx145_0)
                  replace hx145_0 := (HB.out.cell (World.block_lt_of_cell? w _ hx145_0)).trans hx145_0
                  replace p145 := eq_true p145
                  replace q145 := eq_true q145
                  go_wp2
                  repeat (go_quiet (fail); try go_wp2)
                  go_roundg kj4
                  case measure => have := HK1.out; have := HJ4.out; omega
                  case rel => exact ⟨(wrap64 (x3_1 + 1)), sm_, H', ⟨by have := HK1.out; have := HJ4.out; omega⟩, ⟨bk_ BK132.out⟩, ⟨hb_⟩⟩
                ·rw [if_neg c26] at H
                 exact absurd H (by simp)
               ·rw [if_neg c25] at H
                exact absurd H (by simp)
              ·rw [if_neg c24] at H
               have c24b0 : ((rd (rd_L1 l0_1 (ji17)) 0) == (rd (rd_L1 l0_1 x3_1) 0)) = false := beq_eq_false_iff_ne.mpr c24
               have c24b1 : ((rd (rd_L1 l0_1 (ji17)) 0) != (rd (rd_L1 l0_1 x3_1) 0)) = true := bne_iff_ne.mpr c24
               have H' := Aside0.mk H
               clear H
               have hcz30_0 : wc.cell? ⟨gb132, 0, none⟩ = some (.int .i64 a0_0) := (blk_cell BK132.out 0).trans rfl
               have hcz30_1 : wc.cell? ⟨gb132, 1, none⟩ = some (.slice (some ad134) l0_1.length c0_1) := (blk_cell BK132.out 1).trans rfl
               have hfz30_0 := blk_frozen BK132.out 0
               have hfz30_1 := blk_frozen BK132.out 1
               have p139 : 0 ≤ ((ji17) : Int) := of_decide_eq_true as_
               have q139 : (ji17) < (l0_1.length : Int) := of_decide_eq_true as_
               obtain ⟨ad139, A139_0, c139_0, e139, hx139_0, hl139_0, hi139_0⟩ := at_L1 HR0_1.out (ji17) p139 q139
               obtain rfl : ad134 = ad139 := (by injection e139)
               replace hx139_0 := (HB.out.cell (World.block_lt_of_cell? w _ hx139_0)).trans hx139_0
               have HR139_0 := Aside0.mk hi139_0
               have HC139_0 := Aside0.mk hl139_0
               clear hi139_0 hl139_0
               replace p139 := eq_true p139
               replace q139 := eq_true q139
               have p140 : 0 ≤ (0 : Int) := (by omega)
               have q140 : 0 < ((rd_L1 l0_1 (ji17)).length : Int) := of_decide_eq_true as_
               obtain ⟨ad140, e140, hx140_0⟩ := Kd.at_int HR139_0.out 0 p140 q140
               cases e140
               have qi140 : (0 < (rd_L1 l0_1 (ji17)).length) = True := eq_true (by omega)
               (try rw [show ((0 : Int)).toNat = 0 from rfl] at hx140_0)
               (try rw [Addr.add_zero'] at hx140_0)
               replace hx140_0 := (HB.out.cell (World.block_lt_of_cell? w _ hx140_0)).trans hx140_0
               replace p140 := eq_true p140
               replace q140 := eq_true q140
               have p141 : 0 ≤ (0 : Int) := (by omega)
               have q141 : 0 < ((rd_L1 l0_1 x3_1).length : Int) := of_decide_eq_true as_
               obtain ⟨ad141, e141, hx141_0⟩ := Kd.at_int HR134_0.out 0 p141 q141
               cases e141
               have qi141 : (0 < (rd_L1 l0_1 x3_1).length) = True := eq_true (by omega)
               (try rw [show ((0 : Int)).toNat = 0 from rfl] at hx141_0)
               (try rw [Addr.add_zero'] at hx141_0)
               replace hx141_0 := (HB.out.cell (World.block_lt_of_cell? w _ hx141_0)).trans hx141_0
               replace p141 := eq_true p141
               replace q141 := eq_true q141
               have p142 : 0 ≤ (0 : Int) := (by omega)
               have q142 : 0 < ((rd_L1 l0_1 (ji17)).length : Int) := of_decide_eq_true as_
               obtain ⟨ad142, e142, hx142_0⟩ := Kd.at_int HR139_0.out 0 p142 q142
               obtain rfl : ad140 = ad142 := (by injection e142)
               have qi142 : (0 < (rd_L1 l0_1 (ji17)).length) = True := eq_true (by omega)
               (try rw [show ((0 : Int)).toNat = 0 from rfl] at hx142_0)
               (try rw [Addr.add_zero'] at hx142_0)
               replace hx142_0 := (HB.out.cell (World.block_lt_of_cell? w _ hx142_0)).trans hx142_0
               replace p142 := eq_true p142
               replace q142 := eq_true q142
               have p143 : 0 ≤ (0 : Int) := (by omega)
               have q143 : 0 < ((rd_L1 l0_1 x3_1).length : Int) := of_decide_eq_true as_
               obtain ⟨ad143, e143, hx143_0⟩ := Kd.at_int HR134_0.out 0 p143 q143
               obtain rfl : ad141 = ad143 := (by injection e143)
               have qi143 : (0 < (rd_L1 l0_1 x3_1).length) = True := eq_true (by omega)
               (try rw [show ((0 : Int)).toNat = 0 from rfl] at hx143_0)
               (try rw [Addr.add_zero'] at hx143_0)
               replace hx143_0 := (HB.out.cell (World.block_lt_of_cell? w _ hx143_0)).trans hx143_0
               replace p143 := eq_true p143
               replace q143 := eq_true q143
               go_wp2
               repeat (go_quiet (fail); try go_wp2)
               go_roundg kj4
               case measure => have := HK1.out; have := HJ4.out; omega
               case rel => exact ⟨(wrap64 (x3_1 + 1)), sm_, H', ⟨by have := HK1.out; have := HJ4.out; omega⟩, ⟨bk_ BK132.out⟩, ⟨hb_⟩⟩
            ·rw [if_neg c21] at H
             exact absurd H (by simp)
           ·rw [if_neg c20] at H
            exact absurd H (by simp)
          ·rw [if_neg c19] at H
           exact absurd H (by simp)
         ·rw [if_neg c18] at H
          exact absurd H (by simp)
        ·rw [if_neg c16] at H
         have c16b0 : decide (0 < x3_1) = false := decide_eq_false c16
         clear c16
         have H' := Aside0.mk H
         clear H
         go_wp2
         repeat (go_quiet (fail); try go_wp2)
         go_roundg kj4
         case measure => have := HK1.out; have := HJ4.out; omega
         case rel => exact ⟨(wrap64 (x3_1 + 1)), sm_, H', ⟨by have := HK1.out; have := HJ4.out; omega⟩, ⟨bk_ BK132.out⟩, ⟨hb_⟩⟩
    ·rw [if_neg c4] at H
     exact absurd H (by simp)
   ·rw [if_neg c3] at H
    have c3b0 : decide (x3_1 < (l0_1.length : Int)) = false := decide_eq_false c3
    clear c3
    replace H := Option.bind_eq_some_iff.mp H
    obtain ⟨t133, A310, H⟩ := H
    replace H : (some t133) = some r := H
    have A31 := Aside0.mk A310
    clear A310
    obtain rfl := Option.some.inj H
    have hcz32_0 : wr.cell? ⟨gb132, 0, none⟩ = some (.int .i64 a0_0) := (blk_cell BK132.out 0).trans rfl
    have hcz32_1 : wr.cell? ⟨gb132, 1, none⟩ = some (.slice A0_1 l0_1.length c0_1) := (blk_cell BK132.out 1).trans rfl
    have hfz32_0 := blk_frozen BK132.out 0
    have hfz32_1 := blk_frozen BK132.out 1
    go_wp2_with (first | (go_at_call 58; (with_reducible refine (spec_l1In.calls a0_0 0 10 t133 _ A31.out).mono ?_); rintro e w' ⟨rfl, ⟨nd, rfl⟩⟩; (try first | exact ⟨rfl, _, World.drewN_drewN _ _ _⟩ | exact ⟨rfl, _, Eq.trans (World.drewN_drewN _ _ _) (congrArg (World.drewN _) (Nat.add_assoc _ _ _))⟩)))
    repeat (go_quiet (first | (go_at_call 58; (with_reducible refine (spec_l1In.calls a0_0 0 10 t133 _ A31.out).mono ?_); rintro e w' ⟨rfl, ⟨nd, rfl⟩⟩; (try first | exact ⟨rfl, _, World.drewN_drewN _ _ _⟩ | exact ⟨rfl, _, Eq.trans (World.drewN_drewN _ _ _) (congrArg (World.drewN _) (Nat.add_assoc _ _ _))⟩))); try go_wp2_with (first | (go_at_call 58; (with_reducible refine (spec_l1In.calls a0_0 0 10 t133 _ A31.out).mono ?_); rintro e w' ⟨rfl, ⟨nd, rfl⟩⟩; (try first | exact ⟨rfl, _, World.drewN_drewN _ _ _⟩ | exact ⟨rfl, _, Eq.trans (World.drewN_drewN _ _ _) (congrArg (World.drewN _) (Nat.add_assoc _ _ _))⟩))))
    go_ret
    exact ⟨er_, hb_⟩

end Go.Proofs.Ytdlobolnajcfnaa.PFnExactBestAnswer
