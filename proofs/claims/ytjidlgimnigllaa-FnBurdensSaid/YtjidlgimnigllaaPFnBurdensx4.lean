-- Written by a program of this session (hooks of mine on the print): Lean checks it.
import Derived.Test.YtjidlgimnigllaaPFnBurdensx0
import Derived.Test.YtjidlgimnigllaaPFnBurdensx2
import Derived.Test.YtjidlgimnigllaaPFnBurdensx3
namespace Go.Proofs.Ytjidlgimnigllaa.PFnBurdens
open Go.RowKit Go.Proofs.YtjidlgimnigllaaW.PrintWords Go.Proofs.YtjidlgimnigllaaW.PrintLast Go.Proofs.YtjidlgimnigllaaW.PrintMore
attribute [local go_sem] max2_int min2_int max_two min_two max_three min_three max_four min_four   -- for this text's walks alone
set_option linter.unusedVariables false
set_option linter.unusedSimpArgs false

/-! ### impl_Reply: function 17 -/
mutual
def impl_Reply.j0 : Nat → List (S48) → Int → Int → List (S48) → Int → Bool → Option ((List (S48)) × Bool)
 | 0, _, _, _, _, _, _ => none
 | k + 1, x0, x2, x3, x10, x11, x24 => if x24 = true then (some (x10, false)) else (if 0 ≤ x11 then (if x11 < (x0.length : Int) then (if ((rd_T48 x0 x11).f2) = 0 then (if x2 = (wrap64 (3 - ((rd_T48 x0 x11).f1))) then (if x3 = 1 then (impl_Reply.j1 k x2 x3 x10 x11 true ((rd_T48 x0 x11).f0) ((rd_T48 x0 x11).f1) ((rd_T48 x0 x11).f2)) else (impl_Reply.j1 k x2 x3 x10 x11 (x3 == 2) ((rd_T48 x0 x11).f0) ((rd_T48 x0 x11).f1) ((rd_T48 x0 x11).f2))) else (impl_Reply.j1 k x2 x3 x10 x11 false ((rd_T48 x0 x11).f0) ((rd_T48 x0 x11).f1) ((rd_T48 x0 x11).f2))) else (impl_Reply.j1 k x2 x3 x10 x11 false ((rd_T48 x0 x11).f0) ((rd_T48 x0 x11).f1) ((rd_T48 x0 x11).f2))) else (none)) else (none))
def impl_Reply.j1 : Nat → Int → Int → List (S48) → Int → Bool → Int → Int → Int → Option ((List (S48)) × Bool)
 | 0, _, _, _, _, _, _, _, _ => none
 | k + 1, x2, x3, x10, x11, x31, x132000, x132001, x132002 => if x31 = true then (if 0 ≤ x11 then (if x11 < (x10.length : Int) then (some ((x10.set (x11 : Int).toNat (⟨(rd_T48 x10 x11).f0, (rd_T48 x10 x11).f1, x3⟩ : S48)), true)) else (none)) else (none)) else (if x132002 = 2 then (if x2 = x132001 then (if x3 = 3 then (if 0 ≤ x11 then (if x11 < (x10.length : Int) then (some ((x10.set (x11 : Int).toNat (⟨(rd_T48 x10 x11).f0, (rd_T48 x10 x11).f1, x3⟩ : S48)), true)) else (none)) else (none)) else (if x3 = 4 then (if 0 ≤ x11 then (if x11 < (x10.length : Int) then (some ((x10.set (x11 : Int).toNat (⟨(rd_T48 x10 x11).f0, (rd_T48 x10 x11).f1, x3⟩ : S48)), true)) else (none)) else (none)) else (some (x10, false)))) else (some (x10, false))) else (some (x10, false)))
end
def impl_Reply.f (k : Nat) (l0 : List (S48)) (a1 : Int) (a2 : Int) (a3 : Int) : Option ((List (S48)) × Bool) := (impl_Point_35.f l0).bind fun t125 => ((impl_pointAt.f k l0 a1).bind fun t128 => ((impl_ArePoints.f k l0).bind fun t129 => (if t129 = true then (impl_Reply.j0 k l0 a2 a3 t125 t128 (decide (t128 < 0))) else (impl_Reply.j0 k l0 a2 a3 t125 t128 true))))
theorem impl_Reply.mono_l : ∀ k, (∀ y0 y1 y2 y3 y4 y5, LeO (impl_Reply.j0 k y0 y1 y2 y3 y4 y5) (impl_Reply.j0 (k + 1) y0 y1 y2 y3 y4 y5)) ∧ (∀ y0 y1 y2 y3 y4 y5 y6 y7, LeO (impl_Reply.j1 k y0 y1 y2 y3 y4 y5 y6 y7) (impl_Reply.j1 (k + 1) y0 y1 y2 y3 y4 y5 y6 y7))
 | 0 => ⟨fun _ _ _ _ _ _ r h => by simp [impl_Reply.j0] at h, fun _ _ _ _ _ _ _ _ r h => by simp [impl_Reply.j1] at h⟩
 | k + 1 => by
  obtain ⟨ih0, ih1⟩ := impl_Reply.mono_l k
  refine ⟨?_, ?_⟩
  ·intro y0 y1 y2 y3 y4 y5
   unfold impl_Reply.j0
   repeat' first
   | (with_reducible exact ih0 _ _ _ _ _ _)
   | (with_reducible exact ih1 _ _ _ _ _ _ _ _)
   | (with_reducible exact impl_ArePoints.mono _ _)
   | (with_reducible exact impl_pointAt.mono _ _ _)
   | (with_reducible exact LeO.refl _)
   | (with_reducible exact LeO.none _)
   | (with_reducible refine LeO.ite ?_ ?_)
   | (with_reducible refine LeO.bind ?_ (fun _ => ?_))
   | exact ih0 _ _ _ _ _ _
   | exact ih1 _ _ _ _ _ _ _ _
   | exact impl_ArePoints.mono _ _
   | exact impl_pointAt.mono _ _ _
   | exact LeO.none _
   | refine LeO.ite ?_ ?_
   | refine LeO.bind ?_ (fun _ => ?_)
  ·intro y0 y1 y2 y3 y4 y5 y6 y7
   unfold impl_Reply.j1
   repeat' first
   | (with_reducible exact ih0 _ _ _ _ _ _)
   | (with_reducible exact ih1 _ _ _ _ _ _ _ _)
   | (with_reducible exact impl_ArePoints.mono _ _)
   | (with_reducible exact impl_pointAt.mono _ _ _)
   | (with_reducible exact LeO.refl _)
   | (with_reducible exact LeO.none _)
   | (with_reducible refine LeO.ite ?_ ?_)
   | (with_reducible refine LeO.bind ?_ (fun _ => ?_))
   | exact ih0 _ _ _ _ _ _
   | exact ih1 _ _ _ _ _ _ _ _
   | exact impl_ArePoints.mono _ _
   | exact impl_pointAt.mono _ _ _
   | exact LeO.none _
   | refine LeO.ite ?_ ?_
   | refine LeO.bind ?_ (fun _ => ?_)
theorem impl_Reply.mono : ∀ a0 a1 a2 a3 k, LeO (impl_Reply.f k a0 a1 a2 a3) (impl_Reply.f (k + 1) a0 a1 a2 a3) := by
 intro a0 a1 a2 a3 k
 obtain ⟨ih0, ih1⟩ := impl_Reply.mono_l k
 unfold impl_Reply.f
 repeat' first
   | (with_reducible exact ih0 _ _ _ _ _ _)
   | (with_reducible exact ih1 _ _ _ _ _ _ _ _)
   | (with_reducible exact impl_ArePoints.mono _ _)
   | (with_reducible exact impl_pointAt.mono _ _ _)
   | (with_reducible exact LeO.refl _)
   | (with_reducible exact LeO.none _)
   | (with_reducible refine LeO.ite ?_ ?_)
   | (with_reducible refine LeO.bind ?_ (fun _ => ?_))
   | exact ih0 _ _ _ _ _ _
   | exact ih1 _ _ _ _ _ _ _ _
   | exact impl_ArePoints.mono _ _
   | exact impl_pointAt.mono _ _ _
   | exact LeO.none _
   | refine LeO.ite ?_ ?_
   | refine LeO.bind ?_ (fun _ => ?_)
set_option maxHeartbeats 8000000 in
set_option maxRecDepth 100000 in
theorem impl_Reply.calls (k : Nat) (A0 : Option Addr) (c0 : Nat) (l0 : List (S48)) (a1 : Int) (a2 : Int) (a3 : Int) (r1 : List (S48)) (r2 : Bool) (w : World) (hr0 : Kd.C k48 w A0 l0.length l0) (hc0 : l0.length ≤ c0) (h : impl_Reply.f k l0 a1 a2 a3 = some (r1, r2)) :
  Calls Try.prog 17 #[.slice A0 l0.length c0, .int .i64 a1, .int .i64 a2, .int .i64 a3] w fun e w' => ∃ v0_ : Value, e = .returned (.tuple #[v0_, .bool r2]) ∧ Kd.R k48 48 w' w.heap.size (fun _ => True) v0_ r1 ∧ Below w.heap.size w w' := by
 have hu48 := Try.underlying48
 have HR0 := Aside0.mk hr0
 have HC0 := Aside0.mk hc0
 clear hr0 hc0
 have HB := Aside0.mk (Below.refl w.heap.size w)
 have H : ((impl_Point_35.f l0).bind fun t125 => ((impl_pointAt.f k l0 a1).bind fun t128 => ((impl_ArePoints.f k l0).bind fun t129 => (if t129 = true then (impl_Reply.j0 k l0 a2 a3 t125 t128 (decide (t128 < 0))) else (impl_Reply.j0 k l0 a2 a3 t125 t128 true))))) = some (r1, r2) := h
 clear h
 replace H := Option.bind_eq_some_iff.mp H
 obtain ⟨t125, A50, H⟩ := H
 replace H : ((impl_pointAt.f k l0 a1).bind fun t128 => ((impl_ArePoints.f k l0).bind fun t129 => (if t129 = true then (impl_Reply.j0 k l0 a2 a3 t125 t128 (decide (t128 < 0))) else (impl_Reply.j0 k l0 a2 a3 t125 t128 true)))) = some (r1, r2) := H
 have A5 := Aside0.mk A50
 clear A50
 replace H := Option.bind_eq_some_iff.mp H
 obtain ⟨t128, A60, H⟩ := H
 replace H : ((impl_ArePoints.f k l0).bind fun t129 => (if t129 = true then (impl_Reply.j0 k l0 a2 a3 t125 t128 (decide (t128 < 0))) else (impl_Reply.j0 k l0 a2 a3 t125 t128 true))) = some (r1, r2) := H
 have A6 := Aside0.mk A60
 clear A60
 have HC7 := Aside0.mk H
 clear H
 go_enter Try.func17, Try.ntmps17
 go_upto_region 3 with (first | ((with_reducible refine gate_callee (f := 35) rfl ?_); refine goesL_ (some 14) rfl rfl Try.func35 (by kernel_rfl) rfl #[.slice A0 l0.length c0] rfl (by (try simp only [List.map_toArray, List.map_cons, List.map_nil]); first | done | rfl | (simp only [List.length_drop, List.length_take]; rfl)) ?_; (with_reducible refine (impl_Point_35.calls _ _ l0 t125 _ ?side1 ?side2 A5.out).mono ?_); (case side1 => repeat (first | exact HR0.out | (with_reducible refine Kd.C_alloc ?_ _) | (with_reducible refine Kd.C_drewN ?_ _) | (with_reducible refine Kd.C_drew ?_))); (case side2 => exact HC0.out); rintro e w8 ⟨v126, rfl, ho0, hb⟩; refine ⟨_, rfl, ?_⟩; have n0_ := Aside0.mk (Kd.R_lower ho0 (below_size (by repeat (first | (with_reducible first | exact HB.out | apply below_alloc | apply pw_below_drewN | apply below_drew1) | exact HB.out)))); have n1_ := Aside0.mk (below_step (by repeat (first | (with_reducible first | exact HB.out | apply below_alloc | apply pw_below_drewN | apply below_drew1) | exact HB.out)) hb); clear HB; have HO127 := n0_; have HB := n1_; clear n0_ n1_; (try clear hb); (try clear hb2); (try clear hk); (try clear hi); (try clear ho0)) | ((with_reducible refine gate_callee (f := 36) rfl ?_); refine goesL_ (some 17) rfl rfl Try.func36 (by kernel_rfl) rfl #[.slice A0 l0.length c0, .int .i64 a1] rfl (by (try simp only [List.map_toArray, List.map_cons, List.map_nil]); first | done | rfl | (simp only [List.length_drop, List.length_take]; rfl)) ?_; (with_reducible refine (impl_pointAt.calls k _ _ l0 a1 t128 _ ?side1 ?side2 A6.out).mono ?_); (case side1 => repeat (first | exact (Kd.C_below HR0.out HB.out) | (with_reducible refine Kd.C_alloc ?_ _) | (with_reducible refine Kd.C_drewN ?_ _) | (with_reducible refine Kd.C_drew ?_))); (case side2 => exact HC0.out); rintro e w9 ⟨rfl, hb⟩; refine ⟨_, rfl, ?_⟩; have n0_ := Aside0.mk (Kd.R_below (by (with_reducible repeat (first | apply Kd.R_alloc | apply Kd.R_drewN | apply Kd.R_drew)); exact HO127.out) hb); have n1_ := Aside0.mk (below_step (by repeat (first | (with_reducible first | exact HB.out | apply below_alloc | apply pw_below_drewN | apply below_drew1) | exact HB.out)) hb); clear HO127; clear HB; have HO127 := n0_; have HB := n1_; clear n0_ n1_; (try clear hb); (try clear hb2); (try clear hk); (try clear hi)))
 (try simp only [Act.put, List.setIfInBounds_toArray, List.set_cons_zero, List.set_cons_succ])
 go_cut [24] (fun v24 wc => ∃ (kq : Nat) (x24_6 : Bool), v24 = .bool x24_6 ∧ Aside0 (impl_Reply.j0 kq l0 a2 a3 t125 t128 x24_6 = some (r1, r2)) ∧ Aside0 (kq ≤ k) ∧ Aside0 (Kd.R k48 48 wc w.heap.size (fun _ => True) v126 t125) ∧ Aside0 (Below w.heap.size w wc))
 case first =>
  have H := HC7.out
  clear HC7
  replace H := Option.bind_eq_some_iff.mp H
  obtain ⟨t129, A100, H⟩ := H
  replace H : (if t129 = true then (impl_Reply.j0 k l0 a2 a3 t125 t128 (decide (t128 < 0))) else (impl_Reply.j0 k l0 a2 a3 t125 t128 true)) = some (r1, r2) := H
  have A10 := Aside0.mk A100
  clear A100
  by_cases c11 : t129 = true
  ·subst c11
   have H1 : (impl_Reply.j0 k l0 a2 a3 t125 t128 (decide (t128 < 0))) = some (r1, r2) := by rw [if_pos rfl] at H; exact H
   clear H
   have H := H1
   clear H1
   have H' := Aside0.mk H
   clear H
   go_wp2_with (first | ((with_reducible refine gate_callee (f := 23) rfl ?_); refine goesL_ (some 19) rfl rfl Try.func23 (by kernel_rfl) rfl #[.slice A0 l0.length c0] rfl (by (try simp only [List.map_toArray, List.map_cons, List.map_nil]); first | done | rfl | (simp only [List.length_drop, List.length_take]; rfl)) ?_; (with_reducible refine (impl_ArePoints.calls k _ _ l0 true _ ?side1 ?side2 A10.out).mono ?_); (case side1 => repeat (first | exact (Kd.C_below HR0.out HB.out) | (with_reducible refine Kd.C_alloc ?_ _) | (with_reducible refine Kd.C_drewN ?_ _) | (with_reducible refine Kd.C_drew ?_))); (case side2 => exact HC0.out); rintro e w12 ⟨rfl, hb⟩; refine ⟨_, rfl, ?_⟩; have n0_ := Aside0.mk (Kd.R_below (by (with_reducible repeat (first | apply Kd.R_alloc | apply Kd.R_drewN | apply Kd.R_drew)); exact HO127.out) hb); have n1_ := Aside0.mk (below_step (by repeat (first | (with_reducible first | exact HB.out | apply below_alloc | apply pw_below_drewN | apply below_drew1) | exact HB.out)) hb); clear HO127; clear HB; have HO127 := n0_; have HB := n1_; clear n0_ n1_; (try clear hb); (try clear hb2); (try clear hk); (try clear hi)))
   go_meet
   case rel => exact ⟨_, (decide (t128 < 0)), (by first | rfl | (simp; done) | (simp [*]; done)), H', ⟨by first | omega | exact Nat.le_refl _⟩, ⟨by (with_reducible repeat (first | apply Kd.R_alloc | apply Kd.R_drewN | apply Kd.R_drew)); exact HO127.out⟩, ⟨by repeat (first | (with_reducible first | exact HB.out | apply below_alloc | apply pw_below_drewN | apply below_drew1) | exact HB.out)⟩⟩
  ·replace c11 := Bool.eq_false_iff.mpr c11
   subst c11
   have H1 : (impl_Reply.j0 k l0 a2 a3 t125 t128 true) = some (r1, r2) := by rw [if_neg (show ¬ (false = true) by decide)] at H; exact H
   clear H
   have H := H1
   clear H1
   have H' := Aside0.mk H
   clear H
   go_wp2_with (first | ((with_reducible refine gate_callee (f := 23) rfl ?_); refine goesL_ (some 19) rfl rfl Try.func23 (by kernel_rfl) rfl #[.slice A0 l0.length c0] rfl (by (try simp only [List.map_toArray, List.map_cons, List.map_nil]); first | done | rfl | (simp only [List.length_drop, List.length_take]; rfl)) ?_; (with_reducible refine (impl_ArePoints.calls k _ _ l0 false _ ?side1 ?side2 A10.out).mono ?_); (case side1 => repeat (first | exact (Kd.C_below HR0.out HB.out) | (with_reducible refine Kd.C_alloc ?_ _) | (with_reducible refine Kd.C_drewN ?_ _) | (with_reducible refine Kd.C_drew ?_))); (case side2 => exact HC0.out); rintro e w13 ⟨rfl, hb⟩; refine ⟨_, rfl, ?_⟩; have n0_ := Aside0.mk (Kd.R_below (by (with_reducible repeat (first | apply Kd.R_alloc | apply Kd.R_drewN | apply Kd.R_drew)); exact HO127.out) hb); have n1_ := Aside0.mk (below_step (by repeat (first | (with_reducible first | exact HB.out | apply below_alloc | apply pw_below_drewN | apply below_drew1) | exact HB.out)) hb); clear HO127; clear HB; have HO127 := n0_; have HB := n1_; clear n0_ n1_; (try clear hb); (try clear hb2); (try clear hk); (try clear hi)))
   go_meet
   case rel => exact ⟨_, (true), (by first | rfl | (simp; done) | (simp [*]; done)), H', ⟨by first | omega | exact Nat.le_refl _⟩, ⟨by (with_reducible repeat (first | apply Kd.R_alloc | apply Kd.R_drewN | apply Kd.R_drew)); exact HO127.out⟩, ⟨by repeat (first | (with_reducible first | exact HB.out | apply below_alloc | apply pw_below_drewN | apply below_drew1) | exact HB.out)⟩⟩
 case rest =>
  clear HC7
  try clear c1
  try clear c2
  try clear p2
  try clear c3
  try clear c11
  obtain ⟨kq, x24_6, rfl, HA, HJ6, HO_10, HB⟩ := hcut
  cases kq with
  | zero => exact absurd HA.out (by simp [impl_Reply.j0])
  | succ kj6 =>
   have H := HA.out
   clear HA
   simp only [impl_Reply.j0] at H
   by_cases c14 : x24_6 = true
   ·subst c14
    have H1 : (some (t125, false)) = some (r1, r2) := by rw [if_pos rfl] at H; exact H
    clear H
    have H := H1
    clear H1
    simp only [Option.some.injEq, Prod.mk.injEq] at H
    obtain ⟨rfl, rfl⟩ := H
    go_wp2
    go_ret2
    exact ⟨_, by first | rfl | (simp [errW_none, errW_some] <;> rfl) | (simp [*, errW_none, errW_some] <;> rfl), by (with_reducible repeat (first | apply Kd.R_alloc | apply Kd.R_drewN | apply Kd.R_drew)); exact HO_10.out, by repeat (first | (with_reducible first | exact HB.out | apply below_alloc | apply pw_below_drewN | apply below_drew1) | exact HB.out)⟩
   ·replace c14 := Bool.eq_false_iff.mpr c14
    subst c14
    have H1 : (if 0 ≤ t128 then (if t128 < (l0.length : Int) then (if ((rd_T48 l0 t128).f2) = 0 then (if a2 = (wrap64 (3 - ((rd_T48 l0 t128).f1))) then (if a3 = 1 then (impl_Reply.j1 kj6 a2 a3 t125 t128 true ((rd_T48 l0 t128).f0) ((rd_T48 l0 t128).f1) ((rd_T48 l0 t128).f2)) else (impl_Reply.j1 kj6 a2 a3 t125 t128 (a3 == 2) ((rd_T48 l0 t128).f0) ((rd_T48 l0 t128).f1) ((rd_T48 l0 t128).f2))) else (impl_Reply.j1 kj6 a2 a3 t125 t128 false ((rd_T48 l0 t128).f0) ((rd_T48 l0 t128).f1) ((rd_T48 l0 t128).f2))) else (impl_Reply.j1 kj6 a2 a3 t125 t128 false ((rd_T48 l0 t128).f0) ((rd_T48 l0 t128).f1) ((rd_T48 l0 t128).f2))) else (none)) else (none)) = some (r1, r2) := by rw [if_neg (show ¬ (false = true) by decide)] at H; exact H
    clear H
    have H := H1
    clear H1
    by_cases c15 : 0 ≤ t128
    ·rw [if_pos c15] at H
     have c15b0 : decide (0 ≤ t128) = true := decide_eq_true c15
     clear c15
     by_cases c16 : t128 < (l0.length : Int)
     ·rw [if_pos c16] at H
      have c16b0 : decide (t128 < (l0.length : Int)) = true := decide_eq_true c16
      clear c16
      have HC17 := Aside0.mk H
      clear H
      have p130 : 0 ≤ (t128 : Int) := of_decide_eq_true (by first | (with_reducible assumption) | assumption)
      have q130 : t128 < (l0.length : Int) := of_decide_eq_true (by first | (with_reducible assumption) | assumption)
      obtain ⟨ad130, e130, hx130_0, hx130_1, hx130_2⟩ := at_T48 HR0.out t128 p130 q130
      cases e130
      replace hx130_0 := (HB.out.cell (World.block_lt_of_cell? w _ hx130_0)).trans hx130_0
      replace hx130_1 := (HB.out.cell (World.block_lt_of_cell? w _ hx130_1)).trans hx130_1
      replace hx130_2 := (HB.out.cell (World.block_lt_of_cell? w _ hx130_2)).trans hx130_2
      replace p130 := eq_true p130
      replace q130 := eq_true q130
      go_upto_region 7 with (first | ((with_reducible refine gate_dst (N := 12) rfl ?_); refine box_event ?hg (N := 12) ?hd (cs := #[.int .i64 0, .int .i64 0, .int .i64 0]) (t := 48) ?hr ?_; (case hd => rfl); (case hg => rfl); (case hr => first | (go_simp; done) | (go_simp; rfl)); intro gb131 hg w18 hbox hb; have n0_ := Aside0.mk (Kd.R_below (Kd.R_elderB (by (with_reducible repeat (first | apply Kd.R_alloc | apply Kd.R_drewN | apply Kd.R_drew)); exact HO_10.out) gb131 (Nat.le_of_eq hg.symm)) hb); have n1_ := Aside0.mk (below_step (by repeat (first | (with_reducible first | exact HB.out | apply below_alloc | apply pw_below_drewN | apply below_drew1) | exact HB.out)) hb); have n2_ := Aside0.mk (hbox); have n3_ := Aside0.mk ((by rw [hg]; exact (below_size (by repeat (first | (with_reducible first | exact HB.out | apply below_alloc | apply pw_below_drewN | apply below_drew1) | exact HB.out))) : w.heap.size ≤ gb131)); have n4_ := Aside0.mk ((by rw [hg]; exact (below_size (by repeat (first | (with_reducible first | exact HB.out | apply below_alloc | apply pw_below_drewN | apply below_drew1) | exact HB.out))) : w.heap.size ≤ gb131)); clear HO_10; clear HB; have HO_10 := n0_; have HB := n1_; have BK131 := n2_; have GW131 := n3_; have GE131 := n4_; clear n0_ n1_ n2_ n3_ n4_; clear hb hbox hg; have hcz19_0 : w18.cell? ⟨gb131, 0, none⟩ = some (.int .i64 0) := (blk_cell BK131.out 0).trans rfl; have hcz19_1 : w18.cell? ⟨gb131, 1, none⟩ = some (.int .i64 0) := (blk_cell BK131.out 1).trans rfl; have hcz19_2 : w18.cell? ⟨gb131, 2, none⟩ = some (.int .i64 0) := (blk_cell BK131.out 2).trans rfl; have hfz19_0 := blk_frozen BK131.out 0; have hfz19_1 := blk_frozen BK131.out 1; have hfz19_2 := blk_frozen BK131.out 2))
      (try simp only [Act.put, List.setIfInBounds_toArray, List.set_cons_zero, List.set_cons_succ])
      go_cut [31] (fun v31 wc => ∃ (kq : Nat) (x31_16 : Bool), v31 = .bool x31_16 ∧ Aside0 (impl_Reply.j1 kq a2 a3 t125 t128 x31_16 ((rd_T48 l0 t128).f0) ((rd_T48 l0 t128).f1) ((rd_T48 l0 t128).f2) = some (r1, r2)) ∧ Aside0 (kq ≤ kj6) ∧ Aside0 (Kd.R k48 48 wc w.heap.size (fun k_ => k_ ≠ gb131) v126 t125) ∧ Aside0 (wc.heap[gb131]? = some (.cells #[.int .i64 ((rd_T48 l0 t128).f0), .int .i64 ((rd_T48 l0 t128).f1), .int .i64 ((rd_T48 l0 t128).f2)] 48 (0, 0))) ∧ Aside0 (Below w.heap.size w wc))
      case first =>
       have H := HC17.out
       clear HC17
       by_cases c20 : ((rd_T48 l0 t128).f2) = 0
       ·rw [if_pos c20] at H
        have c20b0 : (((rd_T48 l0 t128).f2) == 0) = true := beq_iff_eq.mpr c20
        have c20b1 : (((rd_T48 l0 t128).f2) != 0) = false := bne_eq_false_iff_eq.mpr c20
        clear c20
        (first | rw [c20b0] | (simp only [i64_w, i32_w]; rw [c20b0]) | skip)
        by_cases c21 : a2 = (wrap64 (3 - ((rd_T48 l0 t128).f1)))
        ·rw [if_pos c21] at H
         have c21b0 : (a2 == (wrap64 (3 - ((rd_T48 l0 t128).f1)))) = true := beq_iff_eq.mpr c21
         have c21b1 : (a2 != (wrap64 (3 - ((rd_T48 l0 t128).f1)))) = false := bne_eq_false_iff_eq.mpr c21
         clear c21
         by_cases c22 : a3 = 1
         ·rw [if_pos c22] at H
          have c22b0 : (a3 == 1) = true := beq_iff_eq.mpr c22
          have c22b1 : (a3 != 1) = false := bne_eq_false_iff_eq.mpr c22
          clear c22
          have H' := Aside0.mk H
          clear H
          have hcz23_0 : w18.cell? ⟨gb131, 0, none⟩ = some (.int .i64 0) := (blk_cell BK131.out 0).trans rfl
          have hcz23_1 : w18.cell? ⟨gb131, 1, none⟩ = some (.int .i64 0) := (blk_cell BK131.out 1).trans rfl
          have hcz23_2 : w18.cell? ⟨gb131, 2, none⟩ = some (.int .i64 0) := (blk_cell BK131.out 2).trans rfl
          have hfz23_0 := blk_frozen BK131.out 0
          have hfz23_1 := blk_frozen BK131.out 1
          have hfz23_2 := blk_frozen BK131.out 2
          go_wp2
          go_meet
          case rel => exact ⟨_, (true), (by first | rfl | (simp; done) | (simp [*]; done)), H', ⟨by have := HJ6.out; first | omega | exact Nat.le_refl _⟩, ⟨by (with_reducible repeat (first | apply Kd.R_alloc | apply Kd.R_drewN | apply Kd.R_drew)); exact Kd.R_mono (Kd.R_far (p := ⟨gb131, 2, none⟩) (Kd.R_far (p := ⟨gb131, 1, none⟩) (Kd.R_far (p := ⟨gb131, 0, none⟩) (Kd.R_mono HO_10.out (fun k_ hk => (⟨hk, hk.2⟩ : _ ∧ k_ ≠ gb131))) (fun _ hk => hk.2) (.int .i64 ((rd_T48 l0 t128).f0))) (fun _ hk => hk.2) (.int .i64 ((rd_T48 l0 t128).f1))) (fun _ hk => hk.2) (.int .i64 ((rd_T48 l0 t128).f2))) (fun _ hk => hk.1.2)⟩, ⟨by (with_reducible repeat (first | refine blk_drewN ?_ _ | refine blk_drew ?_ | refine blk_alloc ?_ _)); refine blk_put (cs := #[.int .i64 ((rd_T48 l0 t128).f0), .int .i64 ((rd_T48 l0 t128).f1), .int .i64 0]) ?_ 2 _ rfl; (with_reducible repeat (first | refine blk_drewN ?_ _ | refine blk_drew ?_ | refine blk_alloc ?_ _)); refine blk_put (cs := #[.int .i64 ((rd_T48 l0 t128).f0), .int .i64 0, .int .i64 0]) ?_ 1 _ rfl; (with_reducible repeat (first | refine blk_drewN ?_ _ | refine blk_drew ?_ | refine blk_alloc ?_ _)); refine blk_put (cs := #[.int .i64 0, .int .i64 0, .int .i64 0]) ?_ 0 _ rfl; (with_reducible repeat (first | refine blk_drewN ?_ _ | refine blk_drew ?_ | refine blk_alloc ?_ _)); exact BK131.out⟩, ⟨by repeat (first | (with_reducible first | exact HB.out | apply below_alloc | apply pw_below_drewN | apply below_drew1 | refine below_set ?_ GE131.out) | exact HB.out)⟩⟩
         ·rw [if_neg c22] at H
          have c22b0 : (a3 == 1) = false := beq_eq_false_iff_ne.mpr c22
          have c22b1 : (a3 != 1) = true := bne_iff_ne.mpr c22
          have H' := Aside0.mk H
          clear H
          have hcz24_0 : w18.cell? ⟨gb131, 0, none⟩ = some (.int .i64 0) := (blk_cell BK131.out 0).trans rfl
          have hcz24_1 : w18.cell? ⟨gb131, 1, none⟩ = some (.int .i64 0) := (blk_cell BK131.out 1).trans rfl
          have hcz24_2 : w18.cell? ⟨gb131, 2, none⟩ = some (.int .i64 0) := (blk_cell BK131.out 2).trans rfl
          have hfz24_0 := blk_frozen BK131.out 0
          have hfz24_1 := blk_frozen BK131.out 1
          have hfz24_2 := blk_frozen BK131.out 2
          go_wp2
          go_meet
          case rel => exact ⟨_, ((a3 == 2)), (by first | rfl | (simp; done) | (simp [*]; done)), H', ⟨by have := HJ6.out; first | omega | exact Nat.le_refl _⟩, ⟨by (with_reducible repeat (first | apply Kd.R_alloc | apply Kd.R_drewN | apply Kd.R_drew)); exact Kd.R_mono (Kd.R_far (p := ⟨gb131, 2, none⟩) (Kd.R_far (p := ⟨gb131, 1, none⟩) (Kd.R_far (p := ⟨gb131, 0, none⟩) (Kd.R_mono HO_10.out (fun k_ hk => (⟨hk, hk.2⟩ : _ ∧ k_ ≠ gb131))) (fun _ hk => hk.2) (.int .i64 ((rd_T48 l0 t128).f0))) (fun _ hk => hk.2) (.int .i64 ((rd_T48 l0 t128).f1))) (fun _ hk => hk.2) (.int .i64 ((rd_T48 l0 t128).f2))) (fun _ hk => hk.1.2)⟩, ⟨by (with_reducible repeat (first | refine blk_drewN ?_ _ | refine blk_drew ?_ | refine blk_alloc ?_ _)); refine blk_put (cs := #[.int .i64 ((rd_T48 l0 t128).f0), .int .i64 ((rd_T48 l0 t128).f1), .int .i64 0]) ?_ 2 _ rfl; (with_reducible repeat (first | refine blk_drewN ?_ _ | refine blk_drew ?_ | refine blk_alloc ?_ _)); refine blk_put (cs := #[.int .i64 ((rd_T48 l0 t128).f0), .int .i64 0, .int .i64 0]) ?_ 1 _ rfl; (with_reducible repeat (first | refine blk_drewN ?_ _ | refine blk_drew ?_ | refine blk_alloc ?_ _)); refine blk_put (cs := #[.int .i64 0, .int .i64 0, .int .i64 0]) ?_ 0 _ rfl; (with_reducible repeat (first | refine blk_drewN ?_ _ | refine blk_drew ?_ | refine blk_alloc ?_ _)); exact BK131.out⟩, ⟨by repeat (first | (with_reducible first | exact HB.out | apply below_alloc | apply pw_below_drewN | apply below_drew1 | refine below_set ?_ GE131.out) | exact HB.out)⟩⟩
        ·rw [if_neg c21] at H
         have c21b0 : (a2 == (wrap64 (3 - ((rd_T48 l0 t128).f1)))) = false := beq_eq_false_iff_ne.mpr c21
         have c21b1 : (a2 != (wrap64 (3 - ((rd_T48 l0 t128).f1)))) = true := bne_iff_ne.mpr c21
         have H' := Aside0.mk H
         clear H
         have hcz25_0 : w18.cell? ⟨gb131, 0, none⟩ = some (.int .i64 0) := (blk_cell BK131.out 0).trans rfl
         have hcz25_1 : w18.cell? ⟨gb131, 1, none⟩ = some (.int .i64 0) := (blk_cell BK131.out 1).trans rfl
         have hcz25_2 : w18.cell? ⟨gb131, 2, none⟩ = some (.int .i64 0) := (blk_cell BK131.out 2).trans rfl
         have hfz25_0 := blk_frozen BK131.out 0
         have hfz25_1 := blk_frozen BK131.out 1
         have hfz25_2 := blk_frozen BK131.out 2
         go_wp2
         go_meet
         case rel => exact ⟨_, (false), (by first | rfl | (simp; done) | (simp [*]; done)), H', ⟨by have := HJ6.out; first | omega | exact Nat.le_refl _⟩, ⟨by (with_reducible repeat (first | apply Kd.R_alloc | apply Kd.R_drewN | apply Kd.R_drew)); exact Kd.R_mono (Kd.R_far (p := ⟨gb131, 2, none⟩) (Kd.R_far (p := ⟨gb131, 1, none⟩) (Kd.R_far (p := ⟨gb131, 0, none⟩) (Kd.R_mono HO_10.out (fun k_ hk => (⟨hk, hk.2⟩ : _ ∧ k_ ≠ gb131))) (fun _ hk => hk.2) (.int .i64 ((rd_T48 l0 t128).f0))) (fun _ hk => hk.2) (.int .i64 ((rd_T48 l0 t128).f1))) (fun _ hk => hk.2) (.int .i64 ((rd_T48 l0 t128).f2))) (fun _ hk => hk.1.2)⟩, ⟨by (with_reducible repeat (first | refine blk_drewN ?_ _ | refine blk_drew ?_ | refine blk_alloc ?_ _)); refine blk_put (cs := #[.int .i64 ((rd_T48 l0 t128).f0), .int .i64 ((rd_T48 l0 t128).f1), .int .i64 0]) ?_ 2 _ rfl; (with_reducible repeat (first | refine blk_drewN ?_ _ | refine blk_drew ?_ | refine blk_alloc ?_ _)); refine blk_put (cs := #[.int .i64 ((rd_T48 l0 t128).f0), .int .i64 0, .int .i64 0]) ?_ 1 _ rfl; (with_reducible repeat (first | refine blk_drewN ?_ _ | refine blk_drew ?_ | refine blk_alloc ?_ _)); refine blk_put (cs := #[.int .i64 0, .int .i64 0, .int .i64 0]) ?_ 0 _ rfl; (with_reducible repeat (first | refine blk_drewN ?_ _ | refine blk_drew ?_ | refine blk_alloc ?_ _)); exact BK131.out⟩, ⟨by repeat (first | (with_reducible first | exact HB.out | apply below_alloc | apply pw_below_drewN | apply below_drew1 | refine below_set ?_ GE131.out) | exact HB.out)⟩⟩
       ·rw [if_neg c20] at H
        have c20b0 : (((rd_T48 l0 t128).f2) == 0) = false := beq_eq_false_iff_ne.mpr c20
        have c20b1 : (((rd_T48 l0 t128).f2) != 0) = true := bne_iff_ne.mpr c20
        (first | rw [c20b0] | (simp only [i64_w, i32_w]; rw [c20b0]) | skip)
        have H' := Aside0.mk H
        clear H
        have hcz26_0 : w18.cell? ⟨gb131, 0, none⟩ = some (.int .i64 0) := (blk_cell BK131.out 0).trans rfl
        have hcz26_1 : w18.cell? ⟨gb131, 1, none⟩ = some (.int .i64 0) := (blk_cell BK131.out 1).trans rfl
        have hcz26_2 : w18.cell? ⟨gb131, 2, none⟩ = some (.int .i64 0) := (blk_cell BK131.out 2).trans rfl
        have hfz26_0 := blk_frozen BK131.out 0
        have hfz26_1 := blk_frozen BK131.out 1
        have hfz26_2 := blk_frozen BK131.out 2
        go_wp2
        go_meet
        case rel => exact ⟨_, (false), (by first | rfl | (simp; done) | (simp [*]; done)), H', ⟨by have := HJ6.out; first | omega | exact Nat.le_refl _⟩, ⟨by (with_reducible repeat (first | apply Kd.R_alloc | apply Kd.R_drewN | apply Kd.R_drew)); exact Kd.R_mono (Kd.R_far (p := ⟨gb131, 2, none⟩) (Kd.R_far (p := ⟨gb131, 1, none⟩) (Kd.R_far (p := ⟨gb131, 0, none⟩) (Kd.R_mono HO_10.out (fun k_ hk => (⟨hk, hk.2⟩ : _ ∧ k_ ≠ gb131))) (fun _ hk => hk.2) (.int .i64 ((rd_T48 l0 t128).f0))) (fun _ hk => hk.2) (.int .i64 ((rd_T48 l0 t128).f1))) (fun _ hk => hk.2) (.int .i64 ((rd_T48 l0 t128).f2))) (fun _ hk => hk.1.2)⟩, ⟨by (with_reducible repeat (first | refine blk_drewN ?_ _ | refine blk_drew ?_ | refine blk_alloc ?_ _)); refine blk_put (cs := #[.int .i64 ((rd_T48 l0 t128).f0), .int .i64 ((rd_T48 l0 t128).f1), .int .i64 0]) ?_ 2 _ rfl; (with_reducible repeat (first | refine blk_drewN ?_ _ | refine blk_drew ?_ | refine blk_alloc ?_ _)); refine blk_put (cs := #[.int .i64 ((rd_T48 l0 t128).f0), .int .i64 0, .int .i64 0]) ?_ 1 _ rfl; (with_reducible repeat (first | refine blk_drewN ?_ _ | refine blk_drew ?_ | refine blk_alloc ?_ _)); refine blk_put (cs := #[.int .i64 0, .int .i64 0, .int .i64 0]) ?_ 0 _ rfl; (with_reducible repeat (first | refine blk_drewN ?_ _ | refine blk_drew ?_ | refine blk_alloc ?_ _)); exact BK131.out⟩, ⟨by repeat (first | (with_reducible first | exact HB.out | apply below_alloc | apply pw_below_drewN | apply below_drew1 | refine below_set ?_ GE131.out) | exact HB.out)⟩⟩
      case rest =>
       clear HC17
       try clear c1
       try clear p1
       try clear q1
       try clear hx1
       try clear c2
       try clear p2
       try clear c3
       try clear p6
       try clear c11
       try clear p13
       try clear q13
       try clear hx13
       try clear c14
       try clear c15
       try clear c15b0
       try clear c16
       try clear c16b0
       try clear c17
       try clear c20
       try clear c20b0
       try clear c20b1
       try clear c21
       try clear c21b0
       try clear c21b1
       try clear c22
       try clear c22b0
       try clear c22b1
       try clear c23
       try clear hcz19_0
       try clear hcz19_1
       try clear hcz19_2
       try clear hcz23_0
       try clear hcz23_1
       try clear hcz23_2
       try clear hcz24_0
       try clear hcz24_1
       try clear hcz24_2
       try clear hcz25_0
       try clear hcz25_1
       try clear hcz25_2
       try clear hcz26_0
       try clear hcz26_1
       try clear hcz26_2
       try clear hfz19_0
       try clear hfz19_1
       try clear hfz19_2
       try clear hfz23_0
       try clear hfz23_1
       try clear hfz23_2
       try clear hfz24_0
       try clear hfz24_1
       try clear hfz24_2
       try clear hfz25_0
       try clear hfz25_1
       try clear hfz25_2
       try clear hfz26_0
       try clear hfz26_1
       try clear hfz26_2
       try clear hx130_0
       try clear hx130_1
       try clear hx130_2
       try clear p130
       try clear p2
       try clear q130
       obtain ⟨kq, x31_16, rfl, HA, HJ16, HO_10, BK131, HB⟩ := hcut
       cases kq with
       | zero => exact absurd HA.out (by simp [impl_Reply.j1])
       | succ kj16 =>
        have H := HA.out
        clear HA
        simp only [impl_Reply.j1] at H
        by_cases c27 : x31_16 = true
        ·subst c27
         have H1 : (if 0 ≤ t128 then (if t128 < (t125.length : Int) then (some ((t125.set (t128 : Int).toNat (⟨(rd_T48 t125 t128).f0, (rd_T48 t125 t128).f1, a3⟩ : S48)), true)) else (none)) else (none)) = some (r1, r2) := by rw [if_pos rfl] at H; exact H
         clear H
         have H := H1
         clear H1
         by_cases c28 : 0 ≤ t128
         ·rw [if_pos c28] at H
          have c28b0 : decide (0 ≤ t128) = true := decide_eq_true c28
          clear c28
          by_cases c29 : t128 < (t125.length : Int)
          ·rw [if_pos c29] at H
           have c29b0 : decide (t128 < (t125.length : Int)) = true := decide_eq_true c29
           clear c29
           obtain ⟨y132, hy132⟩ : ∃ y_ : List (S48), y_ = (t125.set (t128 : Int).toNat (⟨(rd_T48 t125 t128).f0, (rd_T48 t125 t128).f1, a3⟩ : S48)) := ⟨_, rfl⟩
           replace H : (some (y132, true)) = some (r1, r2) := by first | (rw [hy132]; with_reducible exact H) | (have H2_ := (Option.bind_some _ _).symm.trans H; rw [hy132]; with_reducible exact H2_) | (have H2_ := (Option.bind_some _ _).symm.trans H; with_reducible exact H2_) | with_reducible exact H | (rw [hy132]; exact H) | exact H
           have Ny132 := Aside0.mk hy132
           clear hy132
           simp only [Option.some.injEq, Prod.mk.injEq] at H
           obtain ⟨rfl, rfl⟩ := H
           have p30 : 0 ≤ (t128 : Int) := of_decide_eq_true (by first | (with_reducible assumption) | assumption)
           have q30 : (t128 : Int) < ((t125.length : Int) : Int) := of_decide_eq_true (by first | (with_reducible assumption) | assumption)
           obtain ⟨go30, co30, eo30, gb30, gl30, cl30, HG30⟩ := Kd.R_form HO_10.out (by omega)
           (first | cases eo30 | (injection eo30 with ea_ en_ ec_; (first | subst ea_ | (injection ea_ with ea_; subst ea_)); subst ec_; clear en_))
           have GB30 := Aside0.mk gb30
           have GG30 := Aside0.mk HG30
           clear gb30 gl30 HG30
           obtain ⟨ce30, hcl30, hM30, hcc30, hfr30⟩ := Kd.R_elem HO_10.out z48 (t128 : Int) p30 q30
           obtain rfl := k48_openM hM30
           have hx30_0 : wc.cell? ⟨go30, (t128 : Int).toNat * 3, none⟩ = some (.int .i64 ((rd_T48 t125 t128).f0)) := hcc30 0 _ rfl
           have hx30_1 : wc.cell? ⟨go30, (t128 : Int).toNat * 3 + 1, none⟩ = some (.int .i64 ((rd_T48 t125 t128).f1)) := hcc30 1 _ rfl
           have hx30_2 : wc.cell? ⟨go30, (t128 : Int).toNat * 3 + 2, none⟩ = some (.int .i64 ((rd_T48 t125 t128).f2)) := hcc30 2 _ rfl
           have hf30_0 : wc.frozen? ⟨go30, (t128 : Int).toNat * 3, none⟩ = false := hfr30 0
           have hf30_1 : wc.frozen? ⟨go30, (t128 : Int).toNat * 3 + 1, none⟩ = false := hfr30 1
           have hf30_2 : wc.frozen? ⟨go30, (t128 : Int).toNat * 3 + 2, none⟩ = false := hfr30 2
           (try clear hM30); clear hcl30 hcc30 hfr30
           replace p30 := eq_true p30
           replace q30 := eq_true q30
           have HX31 := Aside0.mk (show Kd.R k48 48 wc w.heap.size (fun k_ => k_ ≠ gb131) (.slice (some ⟨go30, 0, none⟩) t125.length co30) t125 from (by (with_reducible repeat (first | apply Kd.R_alloc | apply Kd.R_drewN | apply Kd.R_drew)); exact HO_10.out))
           obtain ⟨ce31, hcl31, hM31, hcc31, hfr31⟩ := Kd.R_elem HX31.out z48 (t128 : Int) (of_decide_eq_true (by first | (with_reducible assumption) | assumption)) (by have h_ : (t128 : Int) < ((t125.length : Int) : Int) := of_decide_eq_true (by first | (with_reducible assumption) | assumption); first | exact h_ | (have e_ := (Kd.R_reads' HO_10.out).1; omega) | simpa using h_)
           obtain rfl := k48_openM hM31
           have HP31 := Kd.R_seg HX31.out (t128 : Int) (of_decide_eq_true (by first | (with_reducible assumption) | assumption)) (by have h_ : (t128 : Int) < ((t125.length : Int) : Int) := of_decide_eq_true (by first | (with_reducible assumption) | assumption); first | exact h_ | (have e_ := (Kd.R_reads' HO_10.out).1; omega) | simpa using h_) (seg := [.int .i64 a3]) (j := 2) hcl31 hcc31 (show 3 ≤ 3 from by decide) (x' := (⟨(rd_T48 t125 t128).f0, (rd_T48 t125 t128).f1, a3⟩ : S48)) (k48_mkM _ _ _ (⟨(rd_T48 t125 t128).f0, (rd_T48 t125 t128).f1, a3⟩ : S48) ) (fun _ hk => hk)
           have hx31_2 := hcc31 2 _ rfl
           (try simp only [show (k48).sz = 3 from rfl, Nat.mul_one, Nat.add_zero] at hx31_2)
           have hf31_2 := hfr31 2
           (try simp only [show (k48).sz = 3 from rfl, Nat.mul_one, Nat.add_zero] at hf31_2)
           (try clear hM31); clear hcl31 hcc31 hfr31
           go_wp2_with (first | ((with_reducible refine gate_store (t := 3) (p := 72) rfl ?_); refine store_event (t := 3) (p := 72) (v := ?vo_w32) (w1 := (wc.setCell ⟨go30, (t128 : Int).toNat * 3 + 2, none⟩ (.int .i64 a3))) ?hg ?ho ?hn ?hr ?_; (case ho => rfl); (case hg => rfl); (case hn => rfl); (case hr => first | (go_simp; done) | (go_simp; rfl)); intro w32 hw; have hg : wc.grownBy w32 (some go30) := (by rw [hw]; exact HP31.2); have hp_ : Kd.R k48 48 w32 w.heap.size (fun k_ => k_ ≠ gb131) (.slice (some ⟨go30, 0, none⟩) t125.length co30) y132 := (by rw [hw, Ny132.out]; exact HP31.1); clear HP31; have n0_ := Aside0.mk (hp_); have n1_ := Aside0.mk (blk_grown (g := gb131) (o := .cells #[.int .i64 ((rd_T48 l0 t128).f0), .int .i64 ((rd_T48 l0 t128).f1), .int .i64 ((rd_T48 l0 t128).f2)] 48 (0, 0)) (by (with_reducible repeat (first | refine blk_drewN ?_ _ | refine blk_drew ?_ | refine blk_alloc ?_ _)); exact BK131.out) hg (Kd.R_away HO_10.out (fun _ hk => hk))); have n2_ := Aside0.mk ((by rw [hw]; exact below_set (HB.out) GB30.out : Below w.heap.size w w32)); clear HO_10; clear BK131; clear HB; have HO_10 := n0_; have BK131 := n1_; have HB := n2_; clear n0_ n1_ n2_; clear hg hw hp_))
           go_ret2
           exact ⟨_, by first | rfl | (simp [errW_none, errW_some] <;> rfl) | (simp [*, errW_none, errW_some] <;> rfl), by (with_reducible repeat (first | apply Kd.R_alloc | apply Kd.R_drewN | apply Kd.R_drew)); exact Kd.R_mono HO_10.out (fun _ hk => trivial), by repeat (first | (with_reducible first | exact HB.out | apply below_alloc | apply pw_below_drewN | apply below_drew1 | refine below_set ?_ GE131.out) | exact HB.out)⟩
          ·rw [if_neg c29] at H
           exact absurd H (by simp)
         ·rw [if_neg c28] at H
          exact absurd H (by simp)
        ·replace c27 := Bool.eq_false_iff.mpr c27
         subst c27
         have H1 : (if ((rd_T48 l0 t128).f2) = 2 then (if a2 = ((rd_T48 l0 t128).f1) then (if a3 = 3 then (if 0 ≤ t128 then (if t128 < (t125.length : Int) then (some ((t125.set (t128 : Int).toNat (⟨(rd_T48 t125 t128).f0, (rd_T48 t125 t128).f1, a3⟩ : S48)), true)) else (none)) else (none)) else (if a3 = 4 then (if 0 ≤ t128 then (if t128 < (t125.length : Int) then (some ((t125.set (t128 : Int).toNat (⟨(rd_T48 t125 t128).f0, (rd_T48 t125 t128).f1, a3⟩ : S48)), true)) else (none)) else (none)) else (some (t125, false)))) else (some (t125, false))) else (some (t125, false))) = some (r1, r2) := by rw [if_neg (show ¬ (false = true) by decide)] at H; exact H
         clear H
         have H := H1
         clear H1
         by_cases c33 : ((rd_T48 l0 t128).f2) = 2
         ·rw [if_pos c33] at H
          have c33b0 : (((rd_T48 l0 t128).f2) == 2) = true := beq_iff_eq.mpr c33
          have c33b1 : (((rd_T48 l0 t128).f2) != 2) = false := bne_eq_false_iff_eq.mpr c33
          clear c33
          by_cases c34 : a2 = ((rd_T48 l0 t128).f1)
          ·rw [if_pos c34] at H
           have c34b0 : (a2 == ((rd_T48 l0 t128).f1)) = true := beq_iff_eq.mpr c34
           have c34b1 : (a2 != ((rd_T48 l0 t128).f1)) = false := bne_eq_false_iff_eq.mpr c34
           clear c34
           by_cases c35 : a3 = 3
           ·rw [if_pos c35] at H
            have c35b0 : (a3 == 3) = true := beq_iff_eq.mpr c35
            have c35b1 : (a3 != 3) = false := bne_eq_false_iff_eq.mpr c35
            clear c35
            by_cases c36 : 0 ≤ t128
            ·rw [if_pos c36] at H
             have c36b0 : decide (0 ≤ t128) = true := decide_eq_true c36
             clear c36
             by_cases c37 : t128 < (t125.length : Int)
             ·rw [if_pos c37] at H
              have c37b0 : decide (t128 < (t125.length : Int)) = true := decide_eq_true c37
              clear c37
              obtain ⟨y133, hy133⟩ : ∃ y_ : List (S48), y_ = (t125.set (t128 : Int).toNat (⟨(rd_T48 t125 t128).f0, (rd_T48 t125 t128).f1, a3⟩ : S48)) := ⟨_, rfl⟩
              replace H : (some (y133, true)) = some (r1, r2) := by first | (rw [hy133]; with_reducible exact H) | (have H2_ := (Option.bind_some _ _).symm.trans H; rw [hy133]; with_reducible exact H2_) | (have H2_ := (Option.bind_some _ _).symm.trans H; with_reducible exact H2_) | with_reducible exact H | (rw [hy133]; exact H) | exact H
              have Ny133 := Aside0.mk hy133
              clear hy133
              simp only [Option.some.injEq, Prod.mk.injEq] at H
              obtain ⟨rfl, rfl⟩ := H
              have hcz39_0 : wc.cell? ⟨gb131, 0, none⟩ = some (.int .i64 ((rd_T48 l0 t128).f0)) := (blk_cell BK131.out 0).trans rfl
              have hcz39_1 : wc.cell? ⟨gb131, 1, none⟩ = some (.int .i64 ((rd_T48 l0 t128).f1)) := (blk_cell BK131.out 1).trans rfl
              have hcz39_2 : wc.cell? ⟨gb131, 2, none⟩ = some (.int .i64 ((rd_T48 l0 t128).f2)) := (blk_cell BK131.out 2).trans rfl
              have hfz39_0 := blk_frozen BK131.out 0
              have hfz39_1 := blk_frozen BK131.out 1
              have hfz39_2 := blk_frozen BK131.out 2
              have p38 : 0 ≤ (t128 : Int) := of_decide_eq_true (by first | (with_reducible assumption) | assumption)
              have q38 : (t128 : Int) < ((t125.length : Int) : Int) := of_decide_eq_true (by first | (with_reducible assumption) | assumption)
              obtain ⟨go38, co38, eo38, gb38, gl38, cl38, HG38⟩ := Kd.R_form HO_10.out (by omega)
              (first | cases eo38 | (injection eo38 with ea_ en_ ec_; (first | subst ea_ | (injection ea_ with ea_; subst ea_)); subst ec_; clear en_))
              have GB38 := Aside0.mk gb38
              have GG38 := Aside0.mk HG38
              clear gb38 gl38 HG38
              obtain ⟨ce38, hcl38, hM38, hcc38, hfr38⟩ := Kd.R_elem HO_10.out z48 (t128 : Int) p38 q38
              obtain rfl := k48_openM hM38
              have hx38_0 : wc.cell? ⟨go38, (t128 : Int).toNat * 3, none⟩ = some (.int .i64 ((rd_T48 t125 t128).f0)) := hcc38 0 _ rfl
              have hx38_1 : wc.cell? ⟨go38, (t128 : Int).toNat * 3 + 1, none⟩ = some (.int .i64 ((rd_T48 t125 t128).f1)) := hcc38 1 _ rfl
              have hx38_2 : wc.cell? ⟨go38, (t128 : Int).toNat * 3 + 2, none⟩ = some (.int .i64 ((rd_T48 t125 t128).f2)) := hcc38 2 _ rfl
              have hf38_0 : wc.frozen? ⟨go38, (t128 : Int).toNat * 3, none⟩ = false := hfr38 0
              have hf38_1 : wc.frozen? ⟨go38, (t128 : Int).toNat * 3 + 1, none⟩ = false := hfr38 1
              have hf38_2 : wc.frozen? ⟨go38, (t128 : Int).toNat * 3 + 2, none⟩ = false := hfr38 2
              (try clear hM38); clear hcl38 hcc38 hfr38
              replace p38 := eq_true p38
              replace q38 := eq_true q38
              have HX40 := Aside0.mk (show Kd.R k48 48 wc w.heap.size (fun k_ => k_ ≠ gb131) (.slice (some ⟨go38, 0, none⟩) t125.length co38) t125 from (by (with_reducible repeat (first | apply Kd.R_alloc | apply Kd.R_drewN | apply Kd.R_drew)); exact HO_10.out))
              obtain ⟨ce40, hcl40, hM40, hcc40, hfr40⟩ := Kd.R_elem HX40.out z48 (t128 : Int) (of_decide_eq_true (by first | (with_reducible assumption) | assumption)) (by have h_ : (t128 : Int) < ((t125.length : Int) : Int) := of_decide_eq_true (by first | (with_reducible assumption) | assumption); first | exact h_ | (have e_ := (Kd.R_reads' HO_10.out).1; omega) | simpa using h_)
              obtain rfl := k48_openM hM40
              have HP40 := Kd.R_seg HX40.out (t128 : Int) (of_decide_eq_true (by first | (with_reducible assumption) | assumption)) (by have h_ : (t128 : Int) < ((t125.length : Int) : Int) := of_decide_eq_true (by first | (with_reducible assumption) | assumption); first | exact h_ | (have e_ := (Kd.R_reads' HO_10.out).1; omega) | simpa using h_) (seg := [.int .i64 a3]) (j := 2) hcl40 hcc40 (show 3 ≤ 3 from by decide) (x' := (⟨(rd_T48 t125 t128).f0, (rd_T48 t125 t128).f1, a3⟩ : S48)) (k48_mkM _ _ _ (⟨(rd_T48 t125 t128).f0, (rd_T48 t125 t128).f1, a3⟩ : S48) ) (fun _ hk => hk)
              have hx40_2 := hcc40 2 _ rfl
              (try simp only [show (k48).sz = 3 from rfl, Nat.mul_one, Nat.add_zero] at hx40_2)
              have hf40_2 := hfr40 2
              (try simp only [show (k48).sz = 3 from rfl, Nat.mul_one, Nat.add_zero] at hf40_2)
              (try clear hM40); clear hcl40 hcc40 hfr40
              go_wp2_with (first | ((with_reducible refine gate_store (t := 3) (p := 72) rfl ?_); refine store_event (t := 3) (p := 72) (v := ?vo_w41) (w1 := (wc.setCell ⟨go38, (t128 : Int).toNat * 3 + 2, none⟩ (.int .i64 a3))) ?hg ?ho ?hn ?hr ?_; (case ho => rfl); (case hg => rfl); (case hn => rfl); (case hr => first | (go_simp; done) | (go_simp; rfl)); intro w41 hw; have hg : wc.grownBy w41 (some go38) := (by rw [hw]; exact HP40.2); have hp_ : Kd.R k48 48 w41 w.heap.size (fun k_ => k_ ≠ gb131) (.slice (some ⟨go38, 0, none⟩) t125.length co38) y133 := (by rw [hw, Ny133.out]; exact HP40.1); clear HP40; have n0_ := Aside0.mk (hp_); have n1_ := Aside0.mk (blk_grown (g := gb131) (o := .cells #[.int .i64 ((rd_T48 l0 t128).f0), .int .i64 ((rd_T48 l0 t128).f1), .int .i64 ((rd_T48 l0 t128).f2)] 48 (0, 0)) (by (with_reducible repeat (first | refine blk_drewN ?_ _ | refine blk_drew ?_ | refine blk_alloc ?_ _)); exact BK131.out) hg (Kd.R_away HO_10.out (fun _ hk => hk))); have n2_ := Aside0.mk ((by rw [hw]; exact below_set (HB.out) GB38.out : Below w.heap.size w w41)); clear HO_10; clear BK131; clear HB; have HO_10 := n0_; have BK131 := n1_; have HB := n2_; clear n0_ n1_ n2_; clear hg hw hp_))
              go_ret2
              exact ⟨_, by first | rfl | (simp [errW_none, errW_some] <;> rfl) | (simp [*, errW_none, errW_some] <;> rfl), by (with_reducible repeat (first | apply Kd.R_alloc | apply Kd.R_drewN | apply Kd.R_drew)); exact Kd.R_mono HO_10.out (fun _ hk => trivial), by repeat (first | (with_reducible first | exact HB.out | apply below_alloc | apply pw_below_drewN | apply below_drew1 | refine below_set ?_ GE131.out) | exact HB.out)⟩
             ·rw [if_neg c37] at H
              exact absurd H (by simp)
            ·rw [if_neg c36] at H
             exact absurd H (by simp)
           ·rw [if_neg c35] at H
            have c35b0 : (a3 == 3) = false := beq_eq_false_iff_ne.mpr c35
            have c35b1 : (a3 != 3) = true := bne_iff_ne.mpr c35
            by_cases c42 : a3 = 4
            ·rw [if_pos c42] at H
             have c42b0 : (a3 == 4) = true := beq_iff_eq.mpr c42
             have c42b1 : (a3 != 4) = false := bne_eq_false_iff_eq.mpr c42
             clear c42
             by_cases c43 : 0 ≤ t128
             ·rw [if_pos c43] at H
              have c43b0 : decide (0 ≤ t128) = true := decide_eq_true c43
              clear c43
              by_cases c44 : t128 < (t125.length : Int)
              ·rw [if_pos c44] at H
               have c44b0 : decide (t128 < (t125.length : Int)) = true := decide_eq_true c44
               clear c44
               obtain ⟨y134, hy134⟩ : ∃ y_ : List (S48), y_ = (t125.set (t128 : Int).toNat (⟨(rd_T48 t125 t128).f0, (rd_T48 t125 t128).f1, a3⟩ : S48)) := ⟨_, rfl⟩
               replace H : (some (y134, true)) = some (r1, r2) := by first | (rw [hy134]; with_reducible exact H) | (have H2_ := (Option.bind_some _ _).symm.trans H; rw [hy134]; with_reducible exact H2_) | (have H2_ := (Option.bind_some _ _).symm.trans H; with_reducible exact H2_) | with_reducible exact H | (rw [hy134]; exact H) | exact H
               have Ny134 := Aside0.mk hy134
               clear hy134
               simp only [Option.some.injEq, Prod.mk.injEq] at H
               obtain ⟨rfl, rfl⟩ := H
               have hcz46_0 : wc.cell? ⟨gb131, 0, none⟩ = some (.int .i64 ((rd_T48 l0 t128).f0)) := (blk_cell BK131.out 0).trans rfl
               have hcz46_1 : wc.cell? ⟨gb131, 1, none⟩ = some (.int .i64 ((rd_T48 l0 t128).f1)) := (blk_cell BK131.out 1).trans rfl
               have hcz46_2 : wc.cell? ⟨gb131, 2, none⟩ = some (.int .i64 ((rd_T48 l0 t128).f2)) := (blk_cell BK131.out 2).trans rfl
               have hfz46_0 := blk_frozen BK131.out 0
               have hfz46_1 := blk_frozen BK131.out 1
               have hfz46_2 := blk_frozen BK131.out 2
               have p45 : 0 ≤ (t128 : Int) := of_decide_eq_true (by first | (with_reducible assumption) | assumption)
               have q45 : (t128 : Int) < ((t125.length : Int) : Int) := of_decide_eq_true (by first | (with_reducible assumption) | assumption)
               obtain ⟨go45, co45, eo45, gb45, gl45, cl45, HG45⟩ := Kd.R_form HO_10.out (by omega)
               (first | cases eo45 | (injection eo45 with ea_ en_ ec_; (first | subst ea_ | (injection ea_ with ea_; subst ea_)); subst ec_; clear en_))
               have GB45 := Aside0.mk gb45
               have GG45 := Aside0.mk HG45
               clear gb45 gl45 HG45
               obtain ⟨ce45, hcl45, hM45, hcc45, hfr45⟩ := Kd.R_elem HO_10.out z48 (t128 : Int) p45 q45
               obtain rfl := k48_openM hM45
               have hx45_0 : wc.cell? ⟨go45, (t128 : Int).toNat * 3, none⟩ = some (.int .i64 ((rd_T48 t125 t128).f0)) := hcc45 0 _ rfl
               have hx45_1 : wc.cell? ⟨go45, (t128 : Int).toNat * 3 + 1, none⟩ = some (.int .i64 ((rd_T48 t125 t128).f1)) := hcc45 1 _ rfl
               have hx45_2 : wc.cell? ⟨go45, (t128 : Int).toNat * 3 + 2, none⟩ = some (.int .i64 ((rd_T48 t125 t128).f2)) := hcc45 2 _ rfl
               have hf45_0 : wc.frozen? ⟨go45, (t128 : Int).toNat * 3, none⟩ = false := hfr45 0
               have hf45_1 : wc.frozen? ⟨go45, (t128 : Int).toNat * 3 + 1, none⟩ = false := hfr45 1
               have hf45_2 : wc.frozen? ⟨go45, (t128 : Int).toNat * 3 + 2, none⟩ = false := hfr45 2
               (try clear hM45); clear hcl45 hcc45 hfr45
               replace p45 := eq_true p45
               replace q45 := eq_true q45
               have HX47 := Aside0.mk (show Kd.R k48 48 wc w.heap.size (fun k_ => k_ ≠ gb131) (.slice (some ⟨go45, 0, none⟩) t125.length co45) t125 from (by (with_reducible repeat (first | apply Kd.R_alloc | apply Kd.R_drewN | apply Kd.R_drew)); exact HO_10.out))
               obtain ⟨ce47, hcl47, hM47, hcc47, hfr47⟩ := Kd.R_elem HX47.out z48 (t128 : Int) (of_decide_eq_true (by first | (with_reducible assumption) | assumption)) (by have h_ : (t128 : Int) < ((t125.length : Int) : Int) := of_decide_eq_true (by first | (with_reducible assumption) | assumption); first | exact h_ | (have e_ := (Kd.R_reads' HO_10.out).1; omega) | simpa using h_)
               obtain rfl := k48_openM hM47
               have HP47 := Kd.R_seg HX47.out (t128 : Int) (of_decide_eq_true (by first | (with_reducible assumption) | assumption)) (by have h_ : (t128 : Int) < ((t125.length : Int) : Int) := of_decide_eq_true (by first | (with_reducible assumption) | assumption); first | exact h_ | (have e_ := (Kd.R_reads' HO_10.out).1; omega) | simpa using h_) (seg := [.int .i64 a3]) (j := 2) hcl47 hcc47 (show 3 ≤ 3 from by decide) (x' := (⟨(rd_T48 t125 t128).f0, (rd_T48 t125 t128).f1, a3⟩ : S48)) (k48_mkM _ _ _ (⟨(rd_T48 t125 t128).f0, (rd_T48 t125 t128).f1, a3⟩ : S48) ) (fun _ hk => hk)
               have hx47_2 := hcc47 2 _ rfl
               (try simp only [show (k48).sz = 3 from rfl, Nat.mul_one, Nat.add_zero] at hx47_2)
               have hf47_2 := hfr47 2
               (try simp only [show (k48).sz = 3 from rfl, Nat.mul_one, Nat.add_zero] at hf47_2)
               (try clear hM47); clear hcl47 hcc47 hfr47
               go_wp2_with (first | ((with_reducible refine gate_store (t := 3) (p := 72) rfl ?_); refine store_event (t := 3) (p := 72) (v := ?vo_w48) (w1 := (wc.setCell ⟨go45, (t128 : Int).toNat * 3 + 2, none⟩ (.int .i64 a3))) ?hg ?ho ?hn ?hr ?_; (case ho => rfl); (case hg => rfl); (case hn => rfl); (case hr => first | (go_simp; done) | (go_simp; rfl)); intro w48 hw; have hg : wc.grownBy w48 (some go45) := (by rw [hw]; exact HP47.2); have hp_ : Kd.R k48 48 w48 w.heap.size (fun k_ => k_ ≠ gb131) (.slice (some ⟨go45, 0, none⟩) t125.length co45) y134 := (by rw [hw, Ny134.out]; exact HP47.1); clear HP47; have n0_ := Aside0.mk (hp_); have n1_ := Aside0.mk (blk_grown (g := gb131) (o := .cells #[.int .i64 ((rd_T48 l0 t128).f0), .int .i64 ((rd_T48 l0 t128).f1), .int .i64 ((rd_T48 l0 t128).f2)] 48 (0, 0)) (by (with_reducible repeat (first | refine blk_drewN ?_ _ | refine blk_drew ?_ | refine blk_alloc ?_ _)); exact BK131.out) hg (Kd.R_away HO_10.out (fun _ hk => hk))); have n2_ := Aside0.mk ((by rw [hw]; exact below_set (HB.out) GB45.out : Below w.heap.size w w48)); clear HO_10; clear BK131; clear HB; have HO_10 := n0_; have BK131 := n1_; have HB := n2_; clear n0_ n1_ n2_; clear hg hw hp_))
               go_ret2
               exact ⟨_, by first | rfl | (simp [errW_none, errW_some] <;> rfl) | (simp [*, errW_none, errW_some] <;> rfl), by (with_reducible repeat (first | apply Kd.R_alloc | apply Kd.R_drewN | apply Kd.R_drew)); exact Kd.R_mono HO_10.out (fun _ hk => trivial), by repeat (first | (with_reducible first | exact HB.out | apply below_alloc | apply pw_below_drewN | apply below_drew1 | refine below_set ?_ GE131.out) | exact HB.out)⟩
              ·rw [if_neg c44] at H
               exact absurd H (by simp)
             ·rw [if_neg c43] at H
              exact absurd H (by simp)
            ·rw [if_neg c42] at H
             have c42b0 : (a3 == 4) = false := beq_eq_false_iff_ne.mpr c42
             have c42b1 : (a3 != 4) = true := bne_iff_ne.mpr c42
             simp only [Option.some.injEq, Prod.mk.injEq] at H
             obtain ⟨rfl, rfl⟩ := H
             have hcz49_0 : wc.cell? ⟨gb131, 0, none⟩ = some (.int .i64 ((rd_T48 l0 t128).f0)) := (blk_cell BK131.out 0).trans rfl
             have hcz49_1 : wc.cell? ⟨gb131, 1, none⟩ = some (.int .i64 ((rd_T48 l0 t128).f1)) := (blk_cell BK131.out 1).trans rfl
             have hcz49_2 : wc.cell? ⟨gb131, 2, none⟩ = some (.int .i64 ((rd_T48 l0 t128).f2)) := (blk_cell BK131.out 2).trans rfl
             have hfz49_0 := blk_frozen BK131.out 0
             have hfz49_1 := blk_frozen BK131.out 1
             have hfz49_2 := blk_frozen BK131.out 2
             go_wp2
             go_ret2
             exact ⟨_, by first | rfl | (simp [errW_none, errW_some] <;> rfl) | (simp [*, errW_none, errW_some] <;> rfl), by (with_reducible repeat (first | apply Kd.R_alloc | apply Kd.R_drewN | apply Kd.R_drew)); exact Kd.R_mono HO_10.out (fun _ hk => trivial), by repeat (first | (with_reducible first | exact HB.out | apply below_alloc | apply pw_below_drewN | apply below_drew1 | refine below_set ?_ GE131.out) | exact HB.out)⟩
          ·rw [if_neg c34] at H
           have c34b0 : (a2 == ((rd_T48 l0 t128).f1)) = false := beq_eq_false_iff_ne.mpr c34
           have c34b1 : (a2 != ((rd_T48 l0 t128).f1)) = true := bne_iff_ne.mpr c34
           simp only [Option.some.injEq, Prod.mk.injEq] at H
           obtain ⟨rfl, rfl⟩ := H
           have hcz50_0 : wc.cell? ⟨gb131, 0, none⟩ = some (.int .i64 ((rd_T48 l0 t128).f0)) := (blk_cell BK131.out 0).trans rfl
           have hcz50_1 : wc.cell? ⟨gb131, 1, none⟩ = some (.int .i64 ((rd_T48 l0 t128).f1)) := (blk_cell BK131.out 1).trans rfl
           have hcz50_2 : wc.cell? ⟨gb131, 2, none⟩ = some (.int .i64 ((rd_T48 l0 t128).f2)) := (blk_cell BK131.out 2).trans rfl
           have hfz50_0 := blk_frozen BK131.out 0
           have hfz50_1 := blk_frozen BK131.out 1
           have hfz50_2 := blk_frozen BK131.out 2
           go_wp2
           go_ret2
           exact ⟨_, by first | rfl | (simp [errW_none, errW_some] <;> rfl) | (simp [*, errW_none, errW_some] <;> rfl), by (with_reducible repeat (first | apply Kd.R_alloc | apply Kd.R_drewN | apply Kd.R_drew)); exact Kd.R_mono HO_10.out (fun _ hk => trivial), by repeat (first | (with_reducible first | exact HB.out | apply below_alloc | apply pw_below_drewN | apply below_drew1 | refine below_set ?_ GE131.out) | exact HB.out)⟩
         ·rw [if_neg c33] at H
          have c33b0 : (((rd_T48 l0 t128).f2) == 2) = false := beq_eq_false_iff_ne.mpr c33
          have c33b1 : (((rd_T48 l0 t128).f2) != 2) = true := bne_iff_ne.mpr c33
          simp only [Option.some.injEq, Prod.mk.injEq] at H
          obtain ⟨rfl, rfl⟩ := H
          have hcz51_0 : wc.cell? ⟨gb131, 0, none⟩ = some (.int .i64 ((rd_T48 l0 t128).f0)) := (blk_cell BK131.out 0).trans rfl
          have hcz51_1 : wc.cell? ⟨gb131, 1, none⟩ = some (.int .i64 ((rd_T48 l0 t128).f1)) := (blk_cell BK131.out 1).trans rfl
          have hcz51_2 : wc.cell? ⟨gb131, 2, none⟩ = some (.int .i64 ((rd_T48 l0 t128).f2)) := (blk_cell BK131.out 2).trans rfl
          have hfz51_0 := blk_frozen BK131.out 0
          have hfz51_1 := blk_frozen BK131.out 1
          have hfz51_2 := blk_frozen BK131.out 2
          go_wp2
          go_ret2
          exact ⟨_, by first | rfl | (simp [errW_none, errW_some] <;> rfl) | (simp [*, errW_none, errW_some] <;> rfl), by (with_reducible repeat (first | apply Kd.R_alloc | apply Kd.R_drewN | apply Kd.R_drew)); exact Kd.R_mono HO_10.out (fun _ hk => trivial), by repeat (first | (with_reducible first | exact HB.out | apply below_alloc | apply pw_below_drewN | apply below_drew1 | refine below_set ?_ GE131.out) | exact HB.out)⟩
     ·rw [if_neg c16] at H
      exact absurd H (by simp)
    ·rw [if_neg c15] at H
     exact absurd H (by simp)

end Go.Proofs.Ytjidlgimnigllaa.PFnBurdens
