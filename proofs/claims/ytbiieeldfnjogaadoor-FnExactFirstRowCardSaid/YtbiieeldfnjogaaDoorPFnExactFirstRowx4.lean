-- Written by a program of this session (hooks of mine on the print): Lean checks it.
import Derived.Test.YtbiieeldfnjogaaDoorPFnExactFirstRowx0
import Derived.Test.YtbiieeldfnjogaaDoorPFnExactFirstRowx3
namespace Go.Proofs.YtbiieeldfnjogaaDoor.PFnExactFirstRow
open Go.RowKit Go.Proofs.YtbiieeldfnjogaaDoorW.PrintWords Go.Proofs.YtbiieeldfnjogaaDoorW.PrintLast Go.Proofs.YtbiieeldfnjogaaDoorW.PrintMore
attribute [local go_sem] max2_int min2_int max_two min_two max_three min_three max_four min_four   -- for this text's walks alone
set_option linter.unusedVariables false
set_option linter.unusedSimpArgs false

/-! ### impl_rowsOf: function 10 -/
mutual
def impl_rowsOf.l0 : Nat → List Int → List Int → Int → Int → Option (Int × Bool)
  | 0, _, _, _, _ => none
  | k + 1, x4, x15, x16, x17 => if x17 < x16 then (if 0 ≤ x17 then (if x17 < (x15.length : Int) then ((impl_InRange.f (rd x15 x17) 0 5).bind fun t155 => (if t155 = true then ((impl_letterRows.f k (rd x15 x17)).bind fun t156 => (if x4.length < 17592186044416 then (impl_rowsOf.l0 k (x4 ++ [t156]) x15 x16 (wrap64 (x17 + 1))) else (none))) else (if (rd x15 x17) = (-1) then (impl_rowsOf.j1 k x4 (rd x15 x17) (x4.length : Int) x15 x16 x17 (decide ((x4.length : Int) ≥ 1))) else (impl_rowsOf.j1 k x4 (rd x15 x17) (x4.length : Int) x15 x16 x17 false)))) else (none)) else (none)) else (if 0 < (x4.length : Int) then (some (rd x4 0, ((x4.length : Int) == 1))) else (none))
def impl_rowsOf.j1 : Nat → List Int → Int → Int → List Int → Int → Int → Bool → Option (Int × Bool)
  | 0, _, _, _, _, _, _, _ => none
  | k + 1, x4, x6, x7, x15, x16, x17, x31 => if x31 = true then (if 0 ≤ (wrap64 (x7 - 1)) then (if (wrap64 (x7 - 1)) < (x4.length : Int) then (impl_rowsOf.l0 k (x4.set ((wrap64 (x7 - 1)) : Int).toNat (Go.bits .xor .u64 18446744073709551615 (rd x4 (wrap64 (x7 - 1))))) x15 x16 (wrap64 (x17 + 1))) else (none)) else (none)) else ((impl_InRange.f x6 (-4) (-2)).bind fun t162 => (if t162 = true then (impl_rowsOf.j2 k x4 x6 x7 x15 x16 x17 (decide (x7 ≥ 2))) else (impl_rowsOf.j2 k x4 x6 x7 x15 x16 x17 false)))
def impl_rowsOf.j2 : Nat → List Int → Int → Int → List Int → Int → Int → Bool → Option (Int × Bool)
  | 0, _, _, _, _, _, _, _ => none
  | k + 1, x4, x6, x7, x15, x16, x17, x48 => if x48 = true then (if 0 ≤ (wrap64 (x7 - 2)) then (if (wrap64 (x7 - 2)) < (x4.length : Int) then (if 0 ≤ (wrap64 (x7 - 1)) then (if (wrap64 (x7 - 1)) < (x4.length : Int) then (if (wrap64 (x7 - 1)) ≤ (x4.length : Int) then ((some (x4.take ((wrap64 (x7 - 1)) : Int).toNat : List Int)).bind fun y165 => (if x6 = (-2) then (if (wrap64 (x7 - 2)) < (y165.length : Int) then (impl_rowsOf.l0 k (y165.set ((wrap64 (x7 - 2)) : Int).toNat (Go.bits .and .u64 (rd x4 (wrap64 (x7 - 2))) (rd x4 (wrap64 (x7 - 1))))) x15 x16 (wrap64 (x17 + 1))) else (none)) else (if x6 = (-3) then (if (wrap64 (x7 - 2)) < (y165.length : Int) then (impl_rowsOf.l0 k (y165.set ((wrap64 (x7 - 2)) : Int).toNat (Go.bits .or .u64 (rd x4 (wrap64 (x7 - 2))) (rd x4 (wrap64 (x7 - 1))))) x15 x16 (wrap64 (x17 + 1))) else (none)) else (if (wrap64 (x7 - 2)) < (y165.length : Int) then (impl_rowsOf.l0 k (y165.set ((wrap64 (x7 - 2)) : Int).toNat (Go.bits .or .u64 (Go.bits .xor .u64 18446744073709551615 (rd x4 (wrap64 (x7 - 2)))) (rd x4 (wrap64 (x7 - 1))))) x15 x16 (wrap64 (x17 + 1))) else (none))))) else (none)) else (none)) else (none)) else (none)) else (none)) else (some (0, false))
end
def impl_rowsOf.f (k : Nat) (l0 : List Int) : Option (Int × Bool) := (impl_InRange.f (l0.length : Int) 1 24).bind fun t149 => (if t149 = true then (impl_rowsOf.l0 k (([] : List Int)) l0 (l0.length : Int) 0) else (some (0, false)))
theorem impl_rowsOf.mono_l : ∀ k, (∀ y0 y1 y2 y3, LeO (impl_rowsOf.l0 k y0 y1 y2 y3) (impl_rowsOf.l0 (k + 1) y0 y1 y2 y3)) ∧ (∀ y0 y1 y2 y3 y4 y5 y6, LeO (impl_rowsOf.j1 k y0 y1 y2 y3 y4 y5 y6) (impl_rowsOf.j1 (k + 1) y0 y1 y2 y3 y4 y5 y6)) ∧ (∀ y0 y1 y2 y3 y4 y5 y6, LeO (impl_rowsOf.j2 k y0 y1 y2 y3 y4 y5 y6) (impl_rowsOf.j2 (k + 1) y0 y1 y2 y3 y4 y5 y6))
  | 0 => ⟨fun _ _ _ _ r h => by simp [impl_rowsOf.l0] at h, fun _ _ _ _ _ _ _ r h => by simp [impl_rowsOf.j1] at h, fun _ _ _ _ _ _ _ r h => by simp [impl_rowsOf.j2] at h⟩
  | k + 1 => by
    obtain ⟨ih0, ih1, ih2⟩ := impl_rowsOf.mono_l k
    refine ⟨?_, ?_, ?_⟩
    · intro y0 y1 y2 y3
      unfold impl_rowsOf.l0
      repeat' first
      | (with_reducible exact ih0 _ _ _ _)
      | (with_reducible exact ih1 _ _ _ _ _ _ _)
      | (with_reducible exact ih2 _ _ _ _ _ _ _)
      | (with_reducible exact impl_letterRows.mono _ _)
      | (with_reducible exact LeO.refl _)
      | (with_reducible exact LeO.none _)
      | (with_reducible refine LeO.ite ?_ ?_)
      | (with_reducible refine LeO.bind ?_ (fun _ => ?_))
      | exact ih0 _ _ _ _
      | exact ih1 _ _ _ _ _ _ _
      | exact ih2 _ _ _ _ _ _ _
      | exact impl_letterRows.mono _ _
      | exact LeO.none _
      | refine LeO.ite ?_ ?_
      | refine LeO.bind ?_ (fun _ => ?_)
    · intro y0 y1 y2 y3 y4 y5 y6
      unfold impl_rowsOf.j1
      repeat' first
      | (with_reducible exact ih0 _ _ _ _)
      | (with_reducible exact ih1 _ _ _ _ _ _ _)
      | (with_reducible exact ih2 _ _ _ _ _ _ _)
      | (with_reducible exact impl_letterRows.mono _ _)
      | (with_reducible exact LeO.refl _)
      | (with_reducible exact LeO.none _)
      | (with_reducible refine LeO.ite ?_ ?_)
      | (with_reducible refine LeO.bind ?_ (fun _ => ?_))
      | exact ih0 _ _ _ _
      | exact ih1 _ _ _ _ _ _ _
      | exact ih2 _ _ _ _ _ _ _
      | exact impl_letterRows.mono _ _
      | exact LeO.none _
      | refine LeO.ite ?_ ?_
      | refine LeO.bind ?_ (fun _ => ?_)
    · intro y0 y1 y2 y3 y4 y5 y6
      unfold impl_rowsOf.j2
      repeat' first
      | (with_reducible exact ih0 _ _ _ _)
      | (with_reducible exact ih1 _ _ _ _ _ _ _)
      | (with_reducible exact ih2 _ _ _ _ _ _ _)
      | (with_reducible exact impl_letterRows.mono _ _)
      | (with_reducible exact LeO.refl _)
      | (with_reducible exact LeO.none _)
      | (with_reducible refine LeO.ite ?_ ?_)
      | (with_reducible refine LeO.bind ?_ (fun _ => ?_))
      | exact ih0 _ _ _ _
      | exact ih1 _ _ _ _ _ _ _
      | exact ih2 _ _ _ _ _ _ _
      | exact impl_letterRows.mono _ _
      | exact LeO.none _
      | refine LeO.ite ?_ ?_
      | refine LeO.bind ?_ (fun _ => ?_)
theorem impl_rowsOf.mono : ∀ a0 k, LeO (impl_rowsOf.f k a0) (impl_rowsOf.f (k + 1) a0) := by
  intro a0 k
  obtain ⟨ih0, ih1, ih2⟩ := impl_rowsOf.mono_l k
  unfold impl_rowsOf.f
  repeat' first
      | (with_reducible exact ih0 _ _ _ _)
      | (with_reducible exact ih1 _ _ _ _ _ _ _)
      | (with_reducible exact ih2 _ _ _ _ _ _ _)
      | (with_reducible exact impl_letterRows.mono _ _)
      | (with_reducible exact LeO.refl _)
      | (with_reducible exact LeO.none _)
      | (with_reducible refine LeO.ite ?_ ?_)
      | (with_reducible refine LeO.bind ?_ (fun _ => ?_))
      | exact ih0 _ _ _ _
      | exact ih1 _ _ _ _ _ _ _
      | exact ih2 _ _ _ _ _ _ _
      | exact impl_letterRows.mono _ _
      | exact LeO.none _
      | refine LeO.ite ?_ ?_
      | refine LeO.bind ?_ (fun _ => ?_)
set_option maxHeartbeats 8000000 in
set_option maxRecDepth 100000 in
theorem impl_rowsOf.calls (k : Nat) (A0 : Option Addr) (c0 : Nat) (l0 : List Int) (r1 : Int) (r2 : Bool) (w : World) (hr0 : Kd.C (Kd.int .i64) w A0 l0.length l0) (hc0 : l0.length ≤ c0) (h : impl_rowsOf.f k l0 = some (r1, r2)) :
    Calls Tryd.prog 10 #[.slice A0 l0.length c0] w fun e w' => e = .returned (.tuple #[.int .u64 r1, .bool r2]) ∧ Below w.heap.size w w' := by
  have HR0 := Aside0.mk hr0
  have HC0 := Aside0.mk hc0
  clear hr0 hc0
  have HB := Aside0.mk (Below.refl w.heap.size w)
  have H : ((impl_InRange.f (l0.length : Int) 1 24).bind fun t149 => (if t149 = true then (impl_rowsOf.l0 k (([] : List Int)) l0 (l0.length : Int) 0) else (some (0, false)))) = some (r1, r2) := h
  clear h
  replace H := Option.bind_eq_some_iff.mp H
  obtain ⟨t149, A20, H⟩ := H
  replace H : (if t149 = true then (impl_rowsOf.l0 k (([] : List Int)) l0 (l0.length : Int) 0) else (some (0, false))) = some (r1, r2) := H
  have A2 := Aside0.mk A20
  clear A20
  by_cases c3 : t149 = true
  · subst c3
    have H1 : (impl_rowsOf.l0 k (([] : List Int)) l0 (l0.length : Int) 0) = some (r1, r2) := by rw [if_pos rfl] at H; exact H
    clear H
    have H := H1
    clear H1
    obtain ⟨y150, hy150⟩ : ∃ y_ : List Int, y_ = (([] : List Int)) := ⟨_, rfl⟩
    replace H : (impl_rowsOf.l0 k y150 l0 (l0.length : Int) 0) = some (r1, r2) := by first | (rw [hy150]; with_reducible exact H) | (have H2_ := (Option.bind_some _ _).symm.trans H; rw [hy150]; with_reducible exact H2_) | (have H2_ := (Option.bind_some _ _).symm.trans H; with_reducible exact H2_) | with_reducible exact H | (rw [hy150]; exact H) | exact H
    have Ny150 := Aside0.mk hy150
    clear hy150
    have H' := Aside0.mk H
    clear H
    go_enter Tryd.func10, Tryd.ntmps10
    go_wp2_with (first | (go_at_call 14; (with_reducible refine (impl_InRange.calls (l0.length : Int) 1 24 true _ A2.out).mono ?_); rintro e w' ⟨rfl, ⟨nd, rfl⟩⟩; (try first | exact ⟨rfl, _, World.drewN_drewN _ _ _⟩ | exact ⟨rfl, _, Eq.trans (World.drewN_drewN _ _ _) (congrArg (World.drewN _) (Nat.add_assoc _ _ _))⟩)) | ((with_reducible refine gate_dst (N := 14) rfl ?_); refine Kd.R_lit (Kd.int .u64) _ 30 ?hg (N := 14) ?hd (xs := ([] : List Int)) (inner := []) (ok := fun _ => True) (okp := fun _ => True) ?hr ?hp (fun _ hk => hk) trivial (Below.refl _ _) (Nat.le_refl _) (by simp) ?_; (case hd => rfl); (case hg => rfl); (case hr => first | (go_simp; done) | (go_simp; rfl)); (case hp => exact (Reps.none _ _)); intro v151 w4 ho5 hb hg_ hnew_; clear hg_ hnew_; (first | rw [← Ny150.out] at ho5 | (simp only [Int.reduceToNat] at ho5; rw [← Ny150.out] at ho5)); have n0_ := Aside0.mk (Kd.R_lower ho5 (below_size (by repeat (first | (with_reducible first | exact HB.out | apply below_alloc | apply pw_below_drewN | apply below_drew1) | exact HB.out)))); have n1_ := Aside0.mk (below_step (by repeat (first | (with_reducible first | exact HB.out | apply below_alloc | apply pw_below_drewN | apply below_drew1) | exact HB.out)) hb); clear HB; have HO152 := n0_; have HB := n1_; clear n0_ n1_; clear hb ho5))
    repeat (go_quiet (first | (go_at_call 14; (with_reducible refine (impl_InRange.calls (l0.length : Int) 1 24 true _ A2.out).mono ?_); rintro e w' ⟨rfl, ⟨nd, rfl⟩⟩; (try first | exact ⟨rfl, _, World.drewN_drewN _ _ _⟩ | exact ⟨rfl, _, Eq.trans (World.drewN_drewN _ _ _) (congrArg (World.drewN _) (Nat.add_assoc _ _ _))⟩)) | ((with_reducible refine gate_dst (N := 14) rfl ?_); refine Kd.R_lit (Kd.int .u64) _ 30 ?hg (N := 14) ?hd (xs := ([] : List Int)) (inner := []) (ok := fun _ => True) (okp := fun _ => True) ?hr ?hp (fun _ hk => hk) trivial (Below.refl _ _) (Nat.le_refl _) (by simp) ?_; (case hd => rfl); (case hg => rfl); (case hr => first | (go_simp; done) | (go_simp; rfl)); (case hp => exact (Reps.none _ _)); intro v151 w4 ho5 hb hg_ hnew_; clear hg_ hnew_; (first | rw [← Ny150.out] at ho5 | (simp only [Int.reduceToNat] at ho5; rw [← Ny150.out] at ho5)); have n0_ := Aside0.mk (Kd.R_lower ho5 (below_size (by repeat (first | (with_reducible first | exact HB.out | apply below_alloc | apply pw_below_drewN | apply below_drew1) | exact HB.out)))); have n1_ := Aside0.mk (below_step (by repeat (first | (with_reducible first | exact HB.out | apply below_alloc | apply pw_below_drewN | apply below_drew1) | exact HB.out)) hb); clear HB; have HO152 := n0_; have HB := n1_; clear n0_ n1_; clear hb ho5)); try go_wp2_with (first | (go_at_call 14; (with_reducible refine (impl_InRange.calls (l0.length : Int) 1 24 true _ A2.out).mono ?_); rintro e w' ⟨rfl, ⟨nd, rfl⟩⟩; (try first | exact ⟨rfl, _, World.drewN_drewN _ _ _⟩ | exact ⟨rfl, _, Eq.trans (World.drewN_drewN _ _ _) (congrArg (World.drewN _) (Nat.add_assoc _ _ _))⟩)) | ((with_reducible refine gate_dst (N := 14) rfl ?_); refine Kd.R_lit (Kd.int .u64) _ 30 ?hg (N := 14) ?hd (xs := ([] : List Int)) (inner := []) (ok := fun _ => True) (okp := fun _ => True) ?hr ?hp (fun _ hk => hk) trivial (Below.refl _ _) (Nat.le_refl _) (by simp) ?_; (case hd => rfl); (case hg => rfl); (case hr => first | (go_simp; done) | (go_simp; rfl)); (case hp => exact (Reps.none _ _)); intro v151 w4 ho5 hb hg_ hnew_; clear hg_ hnew_; (first | rw [← Ny150.out] at ho5 | (simp only [Int.reduceToNat] at ho5; rw [← Ny150.out] at ho5)); have n0_ := Aside0.mk (Kd.R_lower ho5 (below_size (by repeat (first | (with_reducible first | exact HB.out | apply below_alloc | apply pw_below_drewN | apply below_drew1) | exact HB.out)))); have n1_ := Aside0.mk (below_step (by repeat (first | (with_reducible first | exact HB.out | apply below_alloc | apply pw_below_drewN | apply below_drew1) | exact HB.out)) hb); clear HB; have HO152 := n0_; have HB := n1_; clear n0_ n1_; clear hb ho5)))
    go_loopg [4, 17] k (fun kq v4 v17 w' => ∃ (x4_1 : List Int) (x17_1 : Int), v17 = .int .i64 x17_1 ∧ Aside0 (impl_rowsOf.l0 kq x4_1 l0 (l0.length : Int) x17_1 = some (r1, r2)) ∧ Aside0 (kq ≤ k) ∧ Aside0 (Kd.R (Kd.int .u64) 30 w' w.heap.size (fun _ => True) v4 x4_1) ∧ Aside0 (Below w.heap.size w w'))
    case atStart => exact ⟨(y150), (0), (by first | rfl | (simp; done) | (simp [*]; done)), H', ⟨Nat.le_refl _⟩, ⟨by (with_reducible repeat (first | apply Kd.R_alloc | apply Kd.R_drewN | apply Kd.R_drew)); exact HO152.out⟩, ⟨by repeat (first | (with_reducible first | exact HB.out | apply below_alloc | apply pw_below_drewN | apply below_drew1) | exact HB.out)⟩⟩
    case round =>
      clear H'
      try clear c1
      try clear p2
      try clear c3
      obtain ⟨x4_1, x17_1, rfl, HA, HK1, HO_4, HB⟩ := hrel
      cases gk with
      | zero => exact absurd HA.out (by simp [impl_rowsOf.l0])
      | succ k1 =>
        have H := HA.out
        clear HA
        simp only [impl_rowsOf.l0] at H
        by_cases c6 : x17_1 < (l0.length : Int)
        · rw [if_pos c6] at H
          have c6b0 : decide (x17_1 < (l0.length : Int)) = true := decide_eq_true c6
          clear c6
          by_cases c7 : 0 ≤ x17_1
          · rw [if_pos c7] at H
            have c7b0 : decide (0 ≤ x17_1) = true := decide_eq_true c7
            clear c7
            by_cases c8 : x17_1 < (l0.length : Int)
            · rw [if_pos c8] at H
              have c8b0 : decide (x17_1 < (l0.length : Int)) = true := decide_eq_true c8
              clear c8
              replace H := Option.bind_eq_some_iff.mp H
              obtain ⟨t155, A90, H⟩ := H
              replace H : (if t155 = true then ((impl_letterRows.f k1 (rd l0 x17_1)).bind fun t156 => (if x4_1.length < 17592186044416 then (impl_rowsOf.l0 k1 (x4_1 ++ [t156]) l0 (l0.length : Int) (wrap64 (x17_1 + 1))) else (none))) else (if (rd l0 x17_1) = (-1) then (impl_rowsOf.j1 k1 x4_1 (rd l0 x17_1) (x4_1.length : Int) l0 (l0.length : Int) x17_1 (decide ((x4_1.length : Int) ≥ 1))) else (impl_rowsOf.j1 k1 x4_1 (rd l0 x17_1) (x4_1.length : Int) l0 (l0.length : Int) x17_1 false))) = some (r1, r2) := H
              have A9 := Aside0.mk A90
              clear A90
              by_cases c10 : t155 = true
              · subst c10
                have H1 : ((impl_letterRows.f k1 (rd l0 x17_1)).bind fun t156 => (if x4_1.length < 17592186044416 then (impl_rowsOf.l0 k1 (x4_1 ++ [t156]) l0 (l0.length : Int) (wrap64 (x17_1 + 1))) else (none))) = some (r1, r2) := by rw [if_pos rfl] at H; exact H
                clear H
                have H := H1
                clear H1
                replace H := Option.bind_eq_some_iff.mp H
                obtain ⟨t156, A110, H⟩ := H
                replace H : (if x4_1.length < 17592186044416 then (impl_rowsOf.l0 k1 (x4_1 ++ [t156]) l0 (l0.length : Int) (wrap64 (x17_1 + 1))) else (none)) = some (r1, r2) := H
                have A11 := Aside0.mk A110
                clear A110
                by_cases c12 : x4_1.length < 17592186044416
                · rw [if_pos c12] at H
                  have LMc12 := Aside0.mk c12
                  clear c12
                  obtain ⟨y157, hy157⟩ : ∃ y_ : List Int, y_ = (x4_1 ++ [t156]) := ⟨_, rfl⟩
                  replace H : (impl_rowsOf.l0 k1 y157 l0 (l0.length : Int) (wrap64 (x17_1 + 1))) = some (r1, r2) := by first | (rw [hy157]; with_reducible exact H) | (have H2_ := (Option.bind_some _ _).symm.trans H; rw [hy157]; with_reducible exact H2_) | (have H2_ := (Option.bind_some _ _).symm.trans H; with_reducible exact H2_) | with_reducible exact H | (rw [hy157]; exact H) | exact H
                  have Ny157 := Aside0.mk hy157
                  clear hy157
                  have H' := Aside0.mk H
                  clear H
                  have p154 : 0 ≤ (x17_1 : Int) := of_decide_eq_true (by first | (with_reducible assumption) | assumption)
                  have q154 : x17_1 < (l0.length : Int) := of_decide_eq_true (by first | (with_reducible assumption) | assumption)
                  obtain ⟨ad154, e154, hx154_0⟩ := Kd.at_int HR0.out x17_1 p154 q154
                  cases e154
                  replace hx154_0 := (HB.out.cell (World.block_lt_of_cell? w _ hx154_0)).trans hx154_0
                  replace p154 := eq_true p154
                  replace q154 := eq_true q154
                  obtain ⟨Ao13, co13, eo13⟩ := Kd.R_slice HO_4.out
                  subst eo13
                  go_wp2_with (first | (go_at_call 14; (with_reducible refine (impl_InRange.calls (rd l0 x17_1) 0 5 true _ A9.out).mono ?_); rintro e w' ⟨rfl, ⟨nd, rfl⟩⟩; (try first | exact ⟨rfl, _, World.drewN_drewN _ _ _⟩ | exact ⟨rfl, _, Eq.trans (World.drewN_drewN _ _ _) (congrArg (World.drewN _) (Nat.add_assoc _ _ _))⟩)) | (go_at_call 15; (with_reducible refine (impl_letterRows.calls k1 (rd l0 x17_1) t156 _ A11.out).mono ?_); rintro e w' ⟨rfl, ⟨nd, rfl⟩⟩; (try first | exact ⟨rfl, _, World.drewN_drewN _ _ _⟩ | exact ⟨rfl, _, Eq.trans (World.drewN_drewN _ _ _) (congrArg (World.drewN _) (Nat.add_assoc _ _ _))⟩)) | ((with_reducible refine gate_builtin (b := .append) (xs := #[.tmp 26, .tmp 29]) rfl ?_); at_builtin; refine Kd.R_append (Kd.int .u64) (w0 := w) w.heap.size rfl (.tmp 26) (.tmp 29) 36 30 (.int .u64 0) 8 rfl Tryd.underlying36 info30 rfl (by decide) (by omega) (.slice Ao13 x4_1.length co13) x4_1 t156 [.int .u64 t156] (fun _ => True) (fun _ => False) rfl rfl ?aP (fun _ hk => hk.elim) ?aF ?aO ?aB ?aS ?aL ?_; (case aP => exact rfl); (case aB => exact (by repeat (first | (with_reducible first | exact HB.out | apply below_alloc | apply pw_below_drewN | apply below_drew1) | exact HB.out))); (case aF => exact (fun _ _ => trivial)); (case aO => exact (by (with_reducible repeat (first | apply Kd.R_alloc | apply Kd.R_drewN | apply Kd.R_drew)); exact HO_4.out)); (case aS => exact (below_size (by repeat (first | (with_reducible first | exact HB.out | apply below_alloc | apply pw_below_drewN | apply below_drew1) | exact HB.out)))); (case aL => have := LMc12.out; omega); intro v158 w14 ho hb hg hat; rw [← Ny157.out] at ho; have n0_ := Aside0.mk (hb); have n1_ := Aside0.mk (ho); clear HB; clear HO_4; have HB := n0_; have HO159 := n1_; clear n0_ n1_; clear ho hb hg hat))
                  repeat (go_quiet (first | (go_at_call 14; (with_reducible refine (impl_InRange.calls (rd l0 x17_1) 0 5 true _ A9.out).mono ?_); rintro e w' ⟨rfl, ⟨nd, rfl⟩⟩; (try first | exact ⟨rfl, _, World.drewN_drewN _ _ _⟩ | exact ⟨rfl, _, Eq.trans (World.drewN_drewN _ _ _) (congrArg (World.drewN _) (Nat.add_assoc _ _ _))⟩)) | (go_at_call 15; (with_reducible refine (impl_letterRows.calls k1 (rd l0 x17_1) t156 _ A11.out).mono ?_); rintro e w' ⟨rfl, ⟨nd, rfl⟩⟩; (try first | exact ⟨rfl, _, World.drewN_drewN _ _ _⟩ | exact ⟨rfl, _, Eq.trans (World.drewN_drewN _ _ _) (congrArg (World.drewN _) (Nat.add_assoc _ _ _))⟩)) | ((with_reducible refine gate_builtin (b := .append) (xs := #[.tmp 26, .tmp 29]) rfl ?_); at_builtin; refine Kd.R_append (Kd.int .u64) (w0 := w) w.heap.size rfl (.tmp 26) (.tmp 29) 36 30 (.int .u64 0) 8 rfl Tryd.underlying36 info30 rfl (by decide) (by omega) (.slice Ao13 x4_1.length co13) x4_1 t156 [.int .u64 t156] (fun _ => True) (fun _ => False) rfl rfl ?aP (fun _ hk => hk.elim) ?aF ?aO ?aB ?aS ?aL ?_; (case aP => exact rfl); (case aB => exact (by repeat (first | (with_reducible first | exact HB.out | apply below_alloc | apply pw_below_drewN | apply below_drew1) | exact HB.out))); (case aF => exact (fun _ _ => trivial)); (case aO => exact (by (with_reducible repeat (first | apply Kd.R_alloc | apply Kd.R_drewN | apply Kd.R_drew)); exact HO_4.out)); (case aS => exact (below_size (by repeat (first | (with_reducible first | exact HB.out | apply below_alloc | apply pw_below_drewN | apply below_drew1) | exact HB.out)))); (case aL => have := LMc12.out; omega); intro v158 w14 ho hb hg hat; rw [← Ny157.out] at ho; have n0_ := Aside0.mk (hb); have n1_ := Aside0.mk (ho); clear HB; clear HO_4; have HB := n0_; have HO159 := n1_; clear n0_ n1_; clear ho hb hg hat)); try go_wp2_with (first | (go_at_call 14; (with_reducible refine (impl_InRange.calls (rd l0 x17_1) 0 5 true _ A9.out).mono ?_); rintro e w' ⟨rfl, ⟨nd, rfl⟩⟩; (try first | exact ⟨rfl, _, World.drewN_drewN _ _ _⟩ | exact ⟨rfl, _, Eq.trans (World.drewN_drewN _ _ _) (congrArg (World.drewN _) (Nat.add_assoc _ _ _))⟩)) | (go_at_call 15; (with_reducible refine (impl_letterRows.calls k1 (rd l0 x17_1) t156 _ A11.out).mono ?_); rintro e w' ⟨rfl, ⟨nd, rfl⟩⟩; (try first | exact ⟨rfl, _, World.drewN_drewN _ _ _⟩ | exact ⟨rfl, _, Eq.trans (World.drewN_drewN _ _ _) (congrArg (World.drewN _) (Nat.add_assoc _ _ _))⟩)) | ((with_reducible refine gate_builtin (b := .append) (xs := #[.tmp 26, .tmp 29]) rfl ?_); at_builtin; refine Kd.R_append (Kd.int .u64) (w0 := w) w.heap.size rfl (.tmp 26) (.tmp 29) 36 30 (.int .u64 0) 8 rfl Tryd.underlying36 info30 rfl (by decide) (by omega) (.slice Ao13 x4_1.length co13) x4_1 t156 [.int .u64 t156] (fun _ => True) (fun _ => False) rfl rfl ?aP (fun _ hk => hk.elim) ?aF ?aO ?aB ?aS ?aL ?_; (case aP => exact rfl); (case aB => exact (by repeat (first | (with_reducible first | exact HB.out | apply below_alloc | apply pw_below_drewN | apply below_drew1) | exact HB.out))); (case aF => exact (fun _ _ => trivial)); (case aO => exact (by (with_reducible repeat (first | apply Kd.R_alloc | apply Kd.R_drewN | apply Kd.R_drew)); exact HO_4.out)); (case aS => exact (below_size (by repeat (first | (with_reducible first | exact HB.out | apply below_alloc | apply pw_below_drewN | apply below_drew1) | exact HB.out)))); (case aL => have := LMc12.out; omega); intro v158 w14 ho hb hg hat; rw [← Ny157.out] at ho; have n0_ := Aside0.mk (hb); have n1_ := Aside0.mk (ho); clear HB; clear HO_4; have HB := n0_; have HO159 := n1_; clear n0_ n1_; clear ho hb hg hat)))
                  go_roundg k1
                  case measure => have := HK1.out; omega
                  case rel => exact ⟨(y157), (wrap64 (x17_1 + 1)), (by first | rfl | (simp; done) | (simp [*]; done)), H', ⟨by have := HK1.out; omega⟩, ⟨by (with_reducible repeat (first | apply Kd.R_alloc | apply Kd.R_drewN | apply Kd.R_drew)); exact HO159.out⟩, ⟨by repeat (first | (with_reducible first | exact HB.out | apply below_alloc | apply pw_below_drewN | apply below_drew1) | exact HB.out)⟩⟩
                · rw [if_neg c12] at H
                  exact absurd H (by simp)
              · replace c10 := Bool.eq_false_iff.mpr c10
                subst c10
                have H1 : (if (rd l0 x17_1) = (-1) then (impl_rowsOf.j1 k1 x4_1 (rd l0 x17_1) (x4_1.length : Int) l0 (l0.length : Int) x17_1 (decide ((x4_1.length : Int) ≥ 1))) else (impl_rowsOf.j1 k1 x4_1 (rd l0 x17_1) (x4_1.length : Int) l0 (l0.length : Int) x17_1 false)) = some (r1, r2) := by rw [if_neg (show ¬ (false = true) by decide)] at H; exact H
                clear H
                have H := H1
                clear H1
                have HC15 := Aside0.mk H
                clear H
                have p154 : 0 ≤ (x17_1 : Int) := of_decide_eq_true (by first | (with_reducible assumption) | assumption)
                have q154 : x17_1 < (l0.length : Int) := of_decide_eq_true (by first | (with_reducible assumption) | assumption)
                obtain ⟨ad154, e154, hx154_0⟩ := Kd.at_int HR0.out x17_1 p154 q154
                cases e154
                replace hx154_0 := (HB.out.cell (World.block_lt_of_cell? w _ hx154_0)).trans hx154_0
                replace p154 := eq_true p154
                replace q154 := eq_true q154
                obtain ⟨Ao16, co16, eo16⟩ := Kd.R_slice HO_4.out
                subst eo16
                go_upto_region 11 with (first | (go_at_call 14; (with_reducible refine (impl_InRange.calls (rd l0 x17_1) 0 5 false _ A9.out).mono ?_); rintro e w' ⟨rfl, ⟨nd, rfl⟩⟩; (try first | exact ⟨rfl, _, World.drewN_drewN _ _ _⟩ | exact ⟨rfl, _, Eq.trans (World.drewN_drewN _ _ _) (congrArg (World.drewN _) (Nat.add_assoc _ _ _))⟩)))
                repeat (go_quiet (first | (go_at_call 14; (with_reducible refine (impl_InRange.calls (rd l0 x17_1) 0 5 false _ A9.out).mono ?_); rintro e w' ⟨rfl, ⟨nd, rfl⟩⟩; (try first | exact ⟨rfl, _, World.drewN_drewN _ _ _⟩ | exact ⟨rfl, _, Eq.trans (World.drewN_drewN _ _ _) (congrArg (World.drewN _) (Nat.add_assoc _ _ _))⟩))); go_upto_region 11 with (first | (go_at_call 14; (with_reducible refine (impl_InRange.calls (rd l0 x17_1) 0 5 false _ A9.out).mono ?_); rintro e w' ⟨rfl, ⟨nd, rfl⟩⟩; (try first | exact ⟨rfl, _, World.drewN_drewN _ _ _⟩ | exact ⟨rfl, _, Eq.trans (World.drewN_drewN _ _ _) (congrArg (World.drewN _) (Nat.add_assoc _ _ _))⟩))))
                (try simp only [Act.put, List.setIfInBounds_toArray, List.set_cons_zero, List.set_cons_succ])
                go_cut [31] (fun v31 wc => ∃ (kq : Nat) (x31_14 : Bool), v31 = .bool x31_14 ∧ Aside0 (impl_rowsOf.j1 kq x4_1 (rd l0 x17_1) (x4_1.length : Int) l0 (l0.length : Int) x17_1 x31_14 = some (r1, r2)) ∧ Aside0 (kq ≤ k1) ∧ Aside0 (Kd.R (Kd.int .u64) 30 wc w.heap.size (fun _ => True) (.slice Ao16 x4_1.length co16) x4_1) ∧ Aside0 (Below w.heap.size w wc))
                case first =>
                  have H := HC15.out
                  clear HC15
                  by_cases c17 : (rd l0 x17_1) = (-1)
                  · rw [if_pos c17] at H
                    have c17b0 : ((rd l0 x17_1) == (-1)) = true := beq_iff_eq.mpr c17
                    have c17b1 : ((rd l0 x17_1) != (-1)) = false := bne_eq_false_iff_eq.mpr c17
                    clear c17
                    (first | rw [c17b0] | (simp only [i64_w, i32_w]; rw [c17b0]) | skip)
                    have H' := Aside0.mk H
                    clear H
                    go_wp2
                    repeat (go_quiet (fail); try go_wp2)
                    go_meet
                    case rel => exact ⟨_, (decide ((x4_1.length : Int) ≥ 1)), (by first | rfl | (simp; done) | (simp [*]; done)), H', ⟨by have := HK1.out; first | omega | exact Nat.le_refl _⟩, ⟨by (with_reducible repeat (first | apply Kd.R_alloc | apply Kd.R_drewN | apply Kd.R_drew)); exact HO_4.out⟩, ⟨by repeat (first | (with_reducible first | exact HB.out | apply below_alloc | apply pw_below_drewN | apply below_drew1) | exact HB.out)⟩⟩
                  · rw [if_neg c17] at H
                    have c17b0 : ((rd l0 x17_1) == (-1)) = false := beq_eq_false_iff_ne.mpr c17
                    have c17b1 : ((rd l0 x17_1) != (-1)) = true := bne_iff_ne.mpr c17
                    (first | rw [c17b0] | (simp only [i64_w, i32_w]; rw [c17b0]) | skip)
                    have H' := Aside0.mk H
                    clear H
                    go_wp2
                    repeat (go_quiet (fail); try go_wp2)
                    go_meet
                    case rel => exact ⟨_, (false), (by first | rfl | (simp; done) | (simp [*]; done)), H', ⟨by have := HK1.out; first | omega | exact Nat.le_refl _⟩, ⟨by (with_reducible repeat (first | apply Kd.R_alloc | apply Kd.R_drewN | apply Kd.R_drew)); exact HO_4.out⟩, ⟨by repeat (first | (with_reducible first | exact HB.out | apply below_alloc | apply pw_below_drewN | apply below_drew1) | exact HB.out)⟩⟩
                case rest =>
                  clear HC15
                  try clear c1
                  try clear p1
                  try clear q1
                  try clear hx1
                  try clear p2
                  try clear c3
                  try clear c6
                  try clear c6b0
                  try clear p6
                  try clear c7
                  try clear c7b0
                  try clear c8
                  try clear c8b0
                  try clear c10
                  try clear c12
                  try clear p15
                  try clear q15
                  try clear hx15
                  try clear c17
                  try clear c17b0
                  try clear c17b1
                  try clear hx154_0
                  try clear p154
                  try clear p2
                  try clear q154
                  obtain ⟨kq, x31_14, rfl, HA, HJ14, HO_4, HB⟩ := hcut
                  cases kq with
                  | zero => exact absurd HA.out (by simp [impl_rowsOf.j1])
                  | succ kj14 =>
                    have H := HA.out
                    clear HA
                    simp only [impl_rowsOf.j1] at H
                    by_cases c18 : x31_14 = true
                    · subst c18
                      have H1 : (if 0 ≤ (wrap64 ((x4_1.length : Int) - 1)) then (if (wrap64 ((x4_1.length : Int) - 1)) < (x4_1.length : Int) then (impl_rowsOf.l0 kj14 (x4_1.set ((wrap64 ((x4_1.length : Int) - 1)) : Int).toNat (Go.bits .xor .u64 18446744073709551615 (rd x4_1 (wrap64 ((x4_1.length : Int) - 1))))) l0 (l0.length : Int) (wrap64 (x17_1 + 1))) else (none)) else (none)) = some (r1, r2) := by rw [if_pos rfl] at H; exact H
                      clear H
                      have H := H1
                      clear H1
                      obtain ⟨ji19, hji19⟩ : ∃ j_ : Int, (wrap64 ((x4_1.length : Int) - 1)) = j_ := ⟨_, rfl⟩
                      replace H : (if 0 ≤ (ji19) then (if (ji19) < (x4_1.length : Int) then (impl_rowsOf.l0 kj14 (x4_1.set ((ji19) : Int).toNat (Go.bits .xor .u64 18446744073709551615 (rd x4_1 (ji19)))) l0 (l0.length : Int) (wrap64 (x17_1 + 1))) else (none)) else (none)) = some (r1, r2) := by first | (rw [hji19] at H; exact H) | (simp only [hji19] at H ⊢; exact H)
                      have hji19w : (IntKind.i64.wrap ((x4_1.length : Int) - 1)) = ji19 := (i64_w _).trans hji19
                      by_cases c20 : 0 ≤ (ji19)
                      · rw [if_pos c20] at H
                        have c20b0 : decide (0 ≤ (ji19)) = true := decide_eq_true c20
                        clear c20
                        by_cases c21 : (ji19) < (x4_1.length : Int)
                        · rw [if_pos c21] at H
                          have c21b0 : decide ((ji19) < (x4_1.length : Int)) = true := decide_eq_true c21
                          clear c21
                          obtain ⟨y161, hy161⟩ : ∃ y_ : List Int, y_ = (x4_1.set ((ji19) : Int).toNat (Go.bits .xor .u64 18446744073709551615 (rd x4_1 (ji19)))) := ⟨_, rfl⟩
                          replace H : (impl_rowsOf.l0 kj14 y161 l0 (l0.length : Int) (wrap64 (x17_1 + 1))) = some (r1, r2) := by first | (rw [hy161]; with_reducible exact H) | (have H2_ := (Option.bind_some _ _).symm.trans H; rw [hy161]; with_reducible exact H2_) | (have H2_ := (Option.bind_some _ _).symm.trans H; with_reducible exact H2_) | with_reducible exact H | (rw [hy161]; exact H) | exact H
                          have Ny161 := Aside0.mk hy161
                          clear hy161
                          have H' := Aside0.mk H
                          clear H
                          have p160 : 0 ≤ ((ji19) : Int) := of_decide_eq_true (by first | (with_reducible assumption) | assumption)
                          have q160 : (ji19) < (x4_1.length : Int) := of_decide_eq_true (by first | (with_reducible assumption) | assumption)
                          obtain ⟨ad160, e160, hx160_0⟩ := Kd.at_int (Kd.R_reads' HO_4.out).2.2 (ji19) p160 q160
                          cases e160
                          replace p160 := eq_true p160
                          replace q160 := eq_true q160
                          have p22 : 0 ≤ ((ji19) : Int) := of_decide_eq_true (by first | (with_reducible assumption) | assumption)
                          have q22 : ((ji19) : Int) < ((x4_1.length : Int) : Int) := of_decide_eq_true (by first | (with_reducible assumption) | assumption)
                          obtain ⟨go22, co22, eo22, gb22, gl22, cl22, HG22⟩ := Kd.R_form HO_4.out (by omega)
                          (first | cases eo22 | (injection eo22 with ea_ en_ ec_; (first | subst ea_ | (injection ea_ with ea_; subst ea_)); subst ec_; clear en_))
                          have GB22 := Aside0.mk gb22
                          have GG22 := Aside0.mk HG22
                          clear gb22 gl22 HG22
                          (first | simp only [add_plain] at hx160_0 | skip)
                          obtain ⟨hx22_0, hf22_0⟩ := Kd.R_celln 0 HO_4.out ((ji19) : Int) p22 q22
                          replace p22 := eq_true p22
                          replace q22 := eq_true q22
                          have HP23 := Kd.R_putg HO_4.out ((ji19) : Int) (Go.bits .xor .u64 18446744073709551615 (rd x4_1 (ji19)))
                          go_wp2_with (first | ((with_reducible refine gate_store (t := 30) (p := 47) rfl ?_); (try (rw [drewN_self wc]; generalize hq_ : World.drewN wc _ = wc; have n0_ := Aside0.mk (Kd.R_at hq_ HO_4.out); have n1_ := Aside0.mk (below_at hq_ HB.out); clear hq_ HO_4 HB; have HO_4 := n0_; have HB := n1_; clear n0_ n1_; (try (have HP23 := Kd.R_putg HO_4.out ((ji19) : Int) (Go.bits .xor .u64 18446744073709551615 (rd x4_1 (ji19))))); (try (obtain ⟨hx22_0, hf22_0⟩ := Kd.R_celln 0 HO_4.out ((ji19) : Int) (of_eq_true p22) (of_eq_true q22))))); refine store_event (t := 30) (p := 47) (v := ?vo_w24) (w1 := (wc.setCell ⟨go22, ((ji19) : Int).toNat, none⟩ (.int .u64 (Go.bits .xor .u64 18446744073709551615 (rd x4_1 (ji19)))))) ?hg ?ho ?hn ?hr ?_; (case ho => rfl); (case hg => rfl); (case hn => rfl); (case hr => first | (go_simp; done) | (go_simp; rfl)); intro w24 hw; have hg : wc.grownBy w24 (some go22) := (by rw [hw]; exact HP23.2); have hp_ : Kd.R (Kd.int .u64) 30 w24 w.heap.size (fun _ => True) (.slice (some ⟨go22, 0, none⟩) x4_1.length co16) y161 := (by rw [hw, Ny161.out]; exact HP23.1); clear HP23; have n0_ := Aside0.mk (hp_); have n1_ := Aside0.mk ((by rw [hw]; exact below_set (HB.out) GB22.out : Below w.heap.size w w24)); clear HO_4; clear HB; have HO_4 := n0_; have HB := n1_; clear n0_ n1_; clear hg hw hp_))
                          repeat (go_quiet (first | ((with_reducible refine gate_store (t := 30) (p := 47) rfl ?_); (try (rw [drewN_self wc]; generalize hq_ : World.drewN wc _ = wc; have n0_ := Aside0.mk (Kd.R_at hq_ HO_4.out); have n1_ := Aside0.mk (below_at hq_ HB.out); clear hq_ HO_4 HB; have HO_4 := n0_; have HB := n1_; clear n0_ n1_; (try (have HP23 := Kd.R_putg HO_4.out ((ji19) : Int) (Go.bits .xor .u64 18446744073709551615 (rd x4_1 (ji19))))); (try (obtain ⟨hx22_0, hf22_0⟩ := Kd.R_celln 0 HO_4.out ((ji19) : Int) (of_eq_true p22) (of_eq_true q22))))); refine store_event (t := 30) (p := 47) (v := ?vo_w24) (w1 := (wc.setCell ⟨go22, ((ji19) : Int).toNat, none⟩ (.int .u64 (Go.bits .xor .u64 18446744073709551615 (rd x4_1 (ji19)))))) ?hg ?ho ?hn ?hr ?_; (case ho => rfl); (case hg => rfl); (case hn => rfl); (case hr => first | (go_simp; done) | (go_simp; rfl)); intro w24 hw; have hg : wc.grownBy w24 (some go22) := (by rw [hw]; exact HP23.2); have hp_ : Kd.R (Kd.int .u64) 30 w24 w.heap.size (fun _ => True) (.slice (some ⟨go22, 0, none⟩) x4_1.length co16) y161 := (by rw [hw, Ny161.out]; exact HP23.1); clear HP23; have n0_ := Aside0.mk (hp_); have n1_ := Aside0.mk ((by rw [hw]; exact below_set (HB.out) GB22.out : Below w.heap.size w w24)); clear HO_4; clear HB; have HO_4 := n0_; have HB := n1_; clear n0_ n1_; clear hg hw hp_)); try go_wp2_with (first | ((with_reducible refine gate_store (t := 30) (p := 47) rfl ?_); (try (rw [drewN_self wc]; generalize hq_ : World.drewN wc _ = wc; have n0_ := Aside0.mk (Kd.R_at hq_ HO_4.out); have n1_ := Aside0.mk (below_at hq_ HB.out); clear hq_ HO_4 HB; have HO_4 := n0_; have HB := n1_; clear n0_ n1_; (try (have HP23 := Kd.R_putg HO_4.out ((ji19) : Int) (Go.bits .xor .u64 18446744073709551615 (rd x4_1 (ji19))))); (try (obtain ⟨hx22_0, hf22_0⟩ := Kd.R_celln 0 HO_4.out ((ji19) : Int) (of_eq_true p22) (of_eq_true q22))))); refine store_event (t := 30) (p := 47) (v := ?vo_w24) (w1 := (wc.setCell ⟨go22, ((ji19) : Int).toNat, none⟩ (.int .u64 (Go.bits .xor .u64 18446744073709551615 (rd x4_1 (ji19)))))) ?hg ?ho ?hn ?hr ?_; (case ho => rfl); (case hg => rfl); (case hn => rfl); (case hr => first | (go_simp; done) | (go_simp; rfl)); intro w24 hw; have hg : wc.grownBy w24 (some go22) := (by rw [hw]; exact HP23.2); have hp_ : Kd.R (Kd.int .u64) 30 w24 w.heap.size (fun _ => True) (.slice (some ⟨go22, 0, none⟩) x4_1.length co16) y161 := (by rw [hw, Ny161.out]; exact HP23.1); clear HP23; have n0_ := Aside0.mk (hp_); have n1_ := Aside0.mk ((by rw [hw]; exact below_set (HB.out) GB22.out : Below w.heap.size w w24)); clear HO_4; clear HB; have HO_4 := n0_; have HB := n1_; clear n0_ n1_; clear hg hw hp_)))
                          go_roundg kj14
                          case measure => have := HK1.out; have := HJ14.out; omega
                          case rel => exact ⟨(y161), (wrap64 (x17_1 + 1)), (by first | rfl | (simp; done) | (simp [*]; done)), H', ⟨by have := HK1.out; have := HJ14.out; omega⟩, ⟨by (with_reducible repeat (first | apply Kd.R_alloc | apply Kd.R_drewN | apply Kd.R_drew)); exact HO_4.out⟩, ⟨by repeat (first | (with_reducible first | exact HB.out | apply below_alloc | apply pw_below_drewN | apply below_drew1) | exact HB.out)⟩⟩
                        · rw [if_neg c21] at H
                          exact absurd H (by simp)
                      · rw [if_neg c20] at H
                        exact absurd H (by simp)
                    · replace c18 := Bool.eq_false_iff.mpr c18
                      subst c18
                      have H1 : ((impl_InRange.f (rd l0 x17_1) (-4) (-2)).bind fun t162 => (if t162 = true then (impl_rowsOf.j2 kj14 x4_1 (rd l0 x17_1) (x4_1.length : Int) l0 (l0.length : Int) x17_1 (decide ((x4_1.length : Int) ≥ 2))) else (impl_rowsOf.j2 kj14 x4_1 (rd l0 x17_1) (x4_1.length : Int) l0 (l0.length : Int) x17_1 false))) = some (r1, r2) := by rw [if_neg (show ¬ (false = true) by decide)] at H; exact H
                      clear H
                      have H := H1
                      clear H1
                      have HC25 := Aside0.mk H
                      clear H
                      go_upto_region 13 with (fail)
                      repeat (go_quiet (fail); go_upto_region 13 with (fail))
                      go_cut [48] (fun v48 wc => ∃ (kq : Nat) (x48_24 : Bool), v48 = .bool x48_24 ∧ Aside0 (impl_rowsOf.j2 kq x4_1 (rd l0 x17_1) (x4_1.length : Int) l0 (l0.length : Int) x17_1 x48_24 = some (r1, r2)) ∧ Aside0 (kq ≤ kj14) ∧ Aside0 (Kd.R (Kd.int .u64) 30 wc w.heap.size (fun _ => True) (.slice Ao16 x4_1.length co16) x4_1) ∧ Aside0 (Below w.heap.size w wc))
                      case first =>
                        have H := HC25.out
                        clear HC25
                        replace H := Option.bind_eq_some_iff.mp H
                        obtain ⟨t162, A260, H⟩ := H
                        replace H : (if t162 = true then (impl_rowsOf.j2 kj14 x4_1 (rd l0 x17_1) (x4_1.length : Int) l0 (l0.length : Int) x17_1 (decide ((x4_1.length : Int) ≥ 2))) else (impl_rowsOf.j2 kj14 x4_1 (rd l0 x17_1) (x4_1.length : Int) l0 (l0.length : Int) x17_1 false)) = some (r1, r2) := H
                        have A26 := Aside0.mk A260
                        clear A260
                        by_cases c27 : t162 = true
                        · subst c27
                          have H1 : (impl_rowsOf.j2 kj14 x4_1 (rd l0 x17_1) (x4_1.length : Int) l0 (l0.length : Int) x17_1 (decide ((x4_1.length : Int) ≥ 2))) = some (r1, r2) := by rw [if_pos rfl] at H; exact H
                          clear H
                          have H := H1
                          clear H1
                          have H' := Aside0.mk H
                          clear H
                          go_wp2_with (first | (go_at_call 14; (with_reducible refine (impl_InRange.calls (rd l0 x17_1) (-4) (-2) true _ A26.out).mono ?_); rintro e w' ⟨rfl, ⟨nd, rfl⟩⟩; (try first | exact ⟨rfl, _, World.drewN_drewN _ _ _⟩ | exact ⟨rfl, _, Eq.trans (World.drewN_drewN _ _ _) (congrArg (World.drewN _) (Nat.add_assoc _ _ _))⟩)))
                          repeat (go_quiet (first | (go_at_call 14; (with_reducible refine (impl_InRange.calls (rd l0 x17_1) (-4) (-2) true _ A26.out).mono ?_); rintro e w' ⟨rfl, ⟨nd, rfl⟩⟩; (try first | exact ⟨rfl, _, World.drewN_drewN _ _ _⟩ | exact ⟨rfl, _, Eq.trans (World.drewN_drewN _ _ _) (congrArg (World.drewN _) (Nat.add_assoc _ _ _))⟩))); try go_wp2_with (first | (go_at_call 14; (with_reducible refine (impl_InRange.calls (rd l0 x17_1) (-4) (-2) true _ A26.out).mono ?_); rintro e w' ⟨rfl, ⟨nd, rfl⟩⟩; (try first | exact ⟨rfl, _, World.drewN_drewN _ _ _⟩ | exact ⟨rfl, _, Eq.trans (World.drewN_drewN _ _ _) (congrArg (World.drewN _) (Nat.add_assoc _ _ _))⟩))))
                          go_meet
                          case rel => exact ⟨_, (decide ((x4_1.length : Int) ≥ 2)), (by first | rfl | (simp; done) | (simp [*]; done)), H', ⟨by have := HK1.out; have := HJ14.out; first | omega | exact Nat.le_refl _⟩, ⟨by (with_reducible repeat (first | apply Kd.R_alloc | apply Kd.R_drewN | apply Kd.R_drew)); exact HO_4.out⟩, ⟨by repeat (first | (with_reducible first | exact HB.out | apply below_alloc | apply pw_below_drewN | apply below_drew1) | exact HB.out)⟩⟩
                        · replace c27 := Bool.eq_false_iff.mpr c27
                          subst c27
                          have H1 : (impl_rowsOf.j2 kj14 x4_1 (rd l0 x17_1) (x4_1.length : Int) l0 (l0.length : Int) x17_1 false) = some (r1, r2) := by rw [if_neg (show ¬ (false = true) by decide)] at H; exact H
                          clear H
                          have H := H1
                          clear H1
                          have H' := Aside0.mk H
                          clear H
                          go_wp2_with (first | (go_at_call 14; (with_reducible refine (impl_InRange.calls (rd l0 x17_1) (-4) (-2) false _ A26.out).mono ?_); rintro e w' ⟨rfl, ⟨nd, rfl⟩⟩; (try first | exact ⟨rfl, _, World.drewN_drewN _ _ _⟩ | exact ⟨rfl, _, Eq.trans (World.drewN_drewN _ _ _) (congrArg (World.drewN _) (Nat.add_assoc _ _ _))⟩)))
                          repeat (go_quiet (first | (go_at_call 14; (with_reducible refine (impl_InRange.calls (rd l0 x17_1) (-4) (-2) false _ A26.out).mono ?_); rintro e w' ⟨rfl, ⟨nd, rfl⟩⟩; (try first | exact ⟨rfl, _, World.drewN_drewN _ _ _⟩ | exact ⟨rfl, _, Eq.trans (World.drewN_drewN _ _ _) (congrArg (World.drewN _) (Nat.add_assoc _ _ _))⟩))); try go_wp2_with (first | (go_at_call 14; (with_reducible refine (impl_InRange.calls (rd l0 x17_1) (-4) (-2) false _ A26.out).mono ?_); rintro e w' ⟨rfl, ⟨nd, rfl⟩⟩; (try first | exact ⟨rfl, _, World.drewN_drewN _ _ _⟩ | exact ⟨rfl, _, Eq.trans (World.drewN_drewN _ _ _) (congrArg (World.drewN _) (Nat.add_assoc _ _ _))⟩))))
                          go_meet
                          case rel => exact ⟨_, (false), (by first | rfl | (simp; done) | (simp [*]; done)), H', ⟨by have := HK1.out; have := HJ14.out; first | omega | exact Nat.le_refl _⟩, ⟨by (with_reducible repeat (first | apply Kd.R_alloc | apply Kd.R_drewN | apply Kd.R_drew)); exact HO_4.out⟩, ⟨by repeat (first | (with_reducible first | exact HB.out | apply below_alloc | apply pw_below_drewN | apply below_drew1) | exact HB.out)⟩⟩
                      case rest =>
                        clear HC25
                        try clear c1
                        try clear p1
                        try clear q1
                        try clear hx1
                        try clear c2
                        try clear p2
                        try clear q2
                        try clear hx2
                        try clear hf2
                        try clear c3
                        try clear c6
                        try clear c6b0
                        try clear p6
                        try clear c7
                        try clear c7b0
                        try clear c8
                        try clear c8b0
                        try clear c10
                        try clear c12
                        try clear p15
                        try clear q15
                        try clear hx15
                        try clear p16
                        try clear q16
                        try clear hx16
                        try clear c17
                        try clear c17b0
                        try clear c17b1
                        try clear c18
                        try clear c20
                        try clear c20b0
                        try clear c21
                        try clear c21b0
                        try clear p22
                        try clear q22
                        try clear hx22
                        try clear hf22
                        try clear c27
                        try clear hx154_0
                        try clear hx160_0
                        try clear hx22_0
                        try clear p1
                        try clear p15
                        try clear p154
                        try clear p160
                        try clear p2
                        try clear p22
                        try clear p6
                        try clear q1
                        try clear q15
                        try clear q154
                        try clear q160
                        try clear q22
                        obtain ⟨kq, x48_24, rfl, HA, HJ24, HO_4, HB⟩ := hcut
                        cases kq with
                        | zero => exact absurd HA.out (by simp [impl_rowsOf.j2])
                        | succ kj24 =>
                          have H := HA.out
                          clear HA
                          simp only [impl_rowsOf.j2] at H
                          by_cases c28 : x48_24 = true
                          · subst c28
                            have H1 : (if 0 ≤ (wrap64 ((x4_1.length : Int) - 2)) then (if (wrap64 ((x4_1.length : Int) - 2)) < (x4_1.length : Int) then (if 0 ≤ (wrap64 ((x4_1.length : Int) - 1)) then (if (wrap64 ((x4_1.length : Int) - 1)) < (x4_1.length : Int) then (if (wrap64 ((x4_1.length : Int) - 1)) ≤ (x4_1.length : Int) then ((some (x4_1.take ((wrap64 ((x4_1.length : Int) - 1)) : Int).toNat : List Int)).bind fun y165 => (if (rd l0 x17_1) = (-2) then (if (wrap64 ((x4_1.length : Int) - 2)) < (y165.length : Int) then (impl_rowsOf.l0 kj24 (y165.set ((wrap64 ((x4_1.length : Int) - 2)) : Int).toNat (Go.bits .and .u64 (rd x4_1 (wrap64 ((x4_1.length : Int) - 2))) (rd x4_1 (wrap64 ((x4_1.length : Int) - 1))))) l0 (l0.length : Int) (wrap64 (x17_1 + 1))) else (none)) else (if (rd l0 x17_1) = (-3) then (if (wrap64 ((x4_1.length : Int) - 2)) < (y165.length : Int) then (impl_rowsOf.l0 kj24 (y165.set ((wrap64 ((x4_1.length : Int) - 2)) : Int).toNat (Go.bits .or .u64 (rd x4_1 (wrap64 ((x4_1.length : Int) - 2))) (rd x4_1 (wrap64 ((x4_1.length : Int) - 1))))) l0 (l0.length : Int) (wrap64 (x17_1 + 1))) else (none)) else (if (wrap64 ((x4_1.length : Int) - 2)) < (y165.length : Int) then (impl_rowsOf.l0 kj24 (y165.set ((wrap64 ((x4_1.length : Int) - 2)) : Int).toNat (Go.bits .or .u64 (Go.bits .xor .u64 18446744073709551615 (rd x4_1 (wrap64 ((x4_1.length : Int) - 2)))) (rd x4_1 (wrap64 ((x4_1.length : Int) - 1))))) l0 (l0.length : Int) (wrap64 (x17_1 + 1))) else (none))))) else (none)) else (none)) else (none)) else (none)) else (none)) = some (r1, r2) := by rw [if_pos rfl] at H; exact H
                            clear H
                            have H := H1
                            clear H1
                            obtain ⟨ji29, hji29⟩ : ∃ j_ : Int, (wrap64 ((x4_1.length : Int) - 2)) = j_ := ⟨_, rfl⟩
                            replace H : (if 0 ≤ (ji29) then (if (ji29) < (x4_1.length : Int) then (if 0 ≤ (wrap64 ((x4_1.length : Int) - 1)) then (if (wrap64 ((x4_1.length : Int) - 1)) < (x4_1.length : Int) then (if (wrap64 ((x4_1.length : Int) - 1)) ≤ (x4_1.length : Int) then ((some (x4_1.take ((wrap64 ((x4_1.length : Int) - 1)) : Int).toNat : List Int)).bind fun y165 => (if (rd l0 x17_1) = (-2) then (if (ji29) < (y165.length : Int) then (impl_rowsOf.l0 kj24 (y165.set ((ji29) : Int).toNat (Go.bits .and .u64 (rd x4_1 (ji29)) (rd x4_1 (wrap64 ((x4_1.length : Int) - 1))))) l0 (l0.length : Int) (wrap64 (x17_1 + 1))) else (none)) else (if (rd l0 x17_1) = (-3) then (if (ji29) < (y165.length : Int) then (impl_rowsOf.l0 kj24 (y165.set ((ji29) : Int).toNat (Go.bits .or .u64 (rd x4_1 (ji29)) (rd x4_1 (wrap64 ((x4_1.length : Int) - 1))))) l0 (l0.length : Int) (wrap64 (x17_1 + 1))) else (none)) else (if (ji29) < (y165.length : Int) then (impl_rowsOf.l0 kj24 (y165.set ((ji29) : Int).toNat (Go.bits .or .u64 (Go.bits .xor .u64 18446744073709551615 (rd x4_1 (ji29))) (rd x4_1 (wrap64 ((x4_1.length : Int) - 1))))) l0 (l0.length : Int) (wrap64 (x17_1 + 1))) else (none))))) else (none)) else (none)) else (none)) else (none)) else (none)) = some (r1, r2) := by first | (rw [hji29] at H; exact H) | (simp only [hji29] at H ⊢; exact H)
                            have hji29w : (IntKind.i64.wrap ((x4_1.length : Int) - 2)) = ji29 := (i64_w _).trans hji29
                            by_cases c30 : 0 ≤ (ji29)
                            · rw [if_pos c30] at H
                              have c30b0 : decide (0 ≤ (ji29)) = true := decide_eq_true c30
                              clear c30
                              by_cases c31 : (ji29) < (x4_1.length : Int)
                              · rw [if_pos c31] at H
                                have c31b0 : decide ((ji29) < (x4_1.length : Int)) = true := decide_eq_true c31
                                clear c31
                                obtain ⟨ji32, hji32⟩ : ∃ j_ : Int, (wrap64 ((x4_1.length : Int) - 1)) = j_ := ⟨_, rfl⟩
                                replace H : (if 0 ≤ (ji32) then (if (ji32) < (x4_1.length : Int) then (if (ji32) ≤ (x4_1.length : Int) then ((some (x4_1.take ((ji32) : Int).toNat : List Int)).bind fun y165 => (if (rd l0 x17_1) = (-2) then (if (ji29) < (y165.length : Int) then (impl_rowsOf.l0 kj24 (y165.set ((ji29) : Int).toNat (Go.bits .and .u64 (rd x4_1 (ji29)) (rd x4_1 (ji32)))) l0 (l0.length : Int) (wrap64 (x17_1 + 1))) else (none)) else (if (rd l0 x17_1) = (-3) then (if (ji29) < (y165.length : Int) then (impl_rowsOf.l0 kj24 (y165.set ((ji29) : Int).toNat (Go.bits .or .u64 (rd x4_1 (ji29)) (rd x4_1 (ji32)))) l0 (l0.length : Int) (wrap64 (x17_1 + 1))) else (none)) else (if (ji29) < (y165.length : Int) then (impl_rowsOf.l0 kj24 (y165.set ((ji29) : Int).toNat (Go.bits .or .u64 (Go.bits .xor .u64 18446744073709551615 (rd x4_1 (ji29))) (rd x4_1 (ji32)))) l0 (l0.length : Int) (wrap64 (x17_1 + 1))) else (none))))) else (none)) else (none)) else (none)) = some (r1, r2) := by first | (rw [hji32] at H; exact H) | (simp only [hji32] at H ⊢; exact H)
                                have hji32w : (IntKind.i64.wrap ((x4_1.length : Int) - 1)) = ji32 := (i64_w _).trans hji32
                                by_cases c33 : 0 ≤ (ji32)
                                · rw [if_pos c33] at H
                                  have c33b0 : decide (0 ≤ (ji32)) = true := decide_eq_true c33
                                  clear c33
                                  by_cases c34 : (ji32) < (x4_1.length : Int)
                                  · rw [if_pos c34] at H
                                    have c34b0 : decide ((ji32) < (x4_1.length : Int)) = true := decide_eq_true c34
                                    clear c34
                                    by_cases c35 : (ji32) ≤ (x4_1.length : Int)
                                    · rw [if_pos c35] at H
                                      have c35b0 := eq_true c35
                                      have c35b1 : decide ((ji32) ≤ (x4_1.length : Int)) = true := decide_eq_true c35
                                      clear c35
                                      obtain ⟨y165, hy165⟩ : ∃ y_ : List Int, y_ = (x4_1.take ((ji32) : Int).toNat) := ⟨_, rfl⟩
                                      replace H : (if (rd l0 x17_1) = (-2) then (if (ji29) < (y165.length : Int) then (impl_rowsOf.l0 kj24 (y165.set ((ji29) : Int).toNat (Go.bits .and .u64 (rd x4_1 (ji29)) (rd x4_1 (ji32)))) l0 (l0.length : Int) (wrap64 (x17_1 + 1))) else (none)) else (if (rd l0 x17_1) = (-3) then (if (ji29) < (y165.length : Int) then (impl_rowsOf.l0 kj24 (y165.set ((ji29) : Int).toNat (Go.bits .or .u64 (rd x4_1 (ji29)) (rd x4_1 (ji32)))) l0 (l0.length : Int) (wrap64 (x17_1 + 1))) else (none)) else (if (ji29) < (y165.length : Int) then (impl_rowsOf.l0 kj24 (y165.set ((ji29) : Int).toNat (Go.bits .or .u64 (Go.bits .xor .u64 18446744073709551615 (rd x4_1 (ji29))) (rd x4_1 (ji32)))) l0 (l0.length : Int) (wrap64 (x17_1 + 1))) else (none)))) = some (r1, r2) := by first | (rw [hy165]; with_reducible exact H) | (have H2_ := (Option.bind_some _ _).symm.trans H; rw [hy165]; with_reducible exact H2_) | (have H2_ := (Option.bind_some _ _).symm.trans H; with_reducible exact H2_) | with_reducible exact H | (rw [hy165]; exact H) | exact H
                                      have Ny165 := Aside0.mk hy165
                                      clear hy165
                                      by_cases c36 : (rd l0 x17_1) = (-2)
                                      · rw [if_pos c36] at H
                                        have c36b0 : ((rd l0 x17_1) == (-2)) = true := beq_iff_eq.mpr c36
                                        have c36b1 : ((rd l0 x17_1) != (-2)) = false := bne_eq_false_iff_eq.mpr c36
                                        clear c36
                                        by_cases c37 : (ji29) < (y165.length : Int)
                                        · rw [if_pos c37] at H
                                          have c37b0 : decide ((ji29) < (y165.length : Int)) = true := decide_eq_true c37
                                          clear c37
                                          obtain ⟨y168, hy168⟩ : ∃ y_ : List Int, y_ = (y165.set ((ji29) : Int).toNat (Go.bits .and .u64 (rd x4_1 (ji29)) (rd x4_1 (ji32)))) := ⟨_, rfl⟩
                                          replace H : (impl_rowsOf.l0 kj24 y168 l0 (l0.length : Int) (wrap64 (x17_1 + 1))) = some (r1, r2) := by first | (rw [hy168]; with_reducible exact H) | (have H2_ := (Option.bind_some _ _).symm.trans H; rw [hy168]; with_reducible exact H2_) | (have H2_ := (Option.bind_some _ _).symm.trans H; with_reducible exact H2_) | with_reducible exact H | (rw [hy168]; exact H) | exact H
                                          have Ny168 := Aside0.mk hy168
                                          clear hy168
                                          have H' := Aside0.mk H
                                          clear H
                                          have p163 : 0 ≤ ((ji29) : Int) := of_decide_eq_true (by first | (with_reducible assumption) | assumption)
                                          have q163 : (ji29) < (x4_1.length : Int) := of_decide_eq_true (by first | (with_reducible assumption) | assumption)
                                          obtain ⟨ad163, e163, hx163_0⟩ := Kd.at_int (Kd.R_reads' HO_4.out).2.2 (ji29) p163 q163
                                          cases e163
                                          replace p163 := eq_true p163
                                          replace q163 := eq_true q163
                                          have p164 : 0 ≤ ((ji32) : Int) := of_decide_eq_true (by first | (with_reducible assumption) | assumption)
                                          have q164 : (ji32) < (x4_1.length : Int) := of_decide_eq_true (by first | (with_reducible assumption) | assumption)
                                          obtain ⟨ad164, e164, hx164_0⟩ := Kd.at_int (Kd.R_reads' HO_4.out).2.2 (ji32) p164 q164
                                          obtain rfl : ad163 = ad164 := (by injection e164)
                                          replace p164 := eq_true p164
                                          replace q164 := eq_true q164
                                          have q39 : ((ji32) : Int) ≤ ((x4_1.length : Int) : Int) := of_decide_eq_true (by first | (with_reducible assumption) | assumption)
                                          obtain ⟨i039, hi039, _, hsz39, _⟩ := info_parts info30
                                          have hcut39 := cut_to (P := Tryd.prog) 36 30 .i64 Tryd.underlying36 hi039 (some ad163) x4_1.length co16 (ji32) (of_decide_eq_true (by first | (with_reducible assumption) | assumption)) q39 (Kd.R_reads' HO_4.out).2.1
                                          have hr39 := Kd.R_take (m := ((ji32) : Int).toNat) HO_4.out (by first | omega | (rw [Ny168.out, List.length_set]; omega) | (rw [Ny165.out, List.length_set]; omega) | (rw [Ny161.out, List.length_set]; omega) | (rw [Ny157.out, List.length_set]; omega) | (rw [Ny150.out, List.length_set]; omega))
                                          have hy39 : y165.length = ((ji32) : Int).toNat := (by first | (rw [Ny165.out, List.length_take]; omega) | (rw [Ny165.out, List.length_take, Ny168.out, List.length_set]; omega) | (rw [Ny165.out, List.length_take, Ny161.out, List.length_set]; omega) | (rw [Ny165.out, List.length_take, Ny157.out, List.length_set]; omega) | (rw [Ny165.out, List.length_take, Ny150.out, List.length_set]; omega))
                                          rw [← Ny165.out] at hr39
                                          rw [← hy39] at hr39 hcut39
                                          clear hy39 hi039 hsz39 HO_4
                                          have HO167 := Aside0.mk hr39
                                          clear hr39
                                          replace q39 := eq_true q39
                                          have p38 : 0 ≤ ((ji29) : Int) := of_decide_eq_true (by first | (with_reducible assumption) | assumption)
                                          have q38 : ((ji29) : Int) < ((y165.length : Int) : Int) := of_decide_eq_true (by first | (with_reducible assumption) | assumption)
                                          obtain ⟨go38, co38, eo38, gb38, gl38, cl38, HG38⟩ := Kd.R_form HO167.out (by omega)
                                          (first | cases eo38 | (injection eo38 with ea_ en_ ec_; (first | subst ea_ | (injection ea_ with ea_; subst ea_)); subst ec_; clear en_))
                                          have GB38 := Aside0.mk gb38
                                          have GG38 := Aside0.mk HG38
                                          clear gb38 gl38 HG38
                                          (first | simp only [add_plain] at hx163_0 | skip)
                                          (first | simp only [add_plain] at hx164_0 | skip)
                                          obtain ⟨hx38_0, hf38_0⟩ := Kd.R_celln 0 HO167.out ((ji29) : Int) p38 q38
                                          replace p38 := eq_true p38
                                          replace q38 := eq_true q38
                                          have HP40 := Kd.R_putg HO167.out ((ji29) : Int) (Go.bits .and .u64 (rd x4_1 (ji29)) (rd x4_1 (ji32)))
                                          go_wp2_with (first | ((with_reducible refine gate_store (t := 30) (p := 86) rfl ?_); (try (rw [drewN_self wc]; generalize hq_ : World.drewN wc _ = wc; have n0_ := Aside0.mk (Kd.R_at hq_ HO167.out); have n1_ := Aside0.mk (below_at hq_ HB.out); clear hq_ HO167 HB; have HO167 := n0_; have HB := n1_; clear n0_ n1_; (try (have HP40 := Kd.R_putg HO167.out ((ji29) : Int) (Go.bits .and .u64 (rd x4_1 (ji29)) (rd x4_1 (ji32))))); (try (obtain ⟨hx38_0, hf38_0⟩ := Kd.R_celln 0 HO167.out ((ji29) : Int) (of_eq_true p38) (of_eq_true q38))))); refine store_event (t := 30) (p := 86) (v := ?vo_w41) (w1 := (wc.setCell ⟨go38, ((ji29) : Int).toNat, none⟩ (.int .u64 (Go.bits .and .u64 (rd x4_1 (ji29)) (rd x4_1 (ji32)))))) ?hg ?ho ?hn ?hr ?_; (case ho => rfl); (case hg => rfl); (case hn => rfl); (case hr => first | (go_simp; done) | (go_simp; rfl)); intro w41 hw; have hg : wc.grownBy w41 (some go38) := (by rw [hw]; exact HP40.2); have hp_ : Kd.R (Kd.int .u64) 30 w41 w.heap.size (fun _ => True) (.slice (some ⟨go38, 0, none⟩) y165.length co16) y168 := (by rw [hw, Ny168.out]; exact HP40.1); clear HP40; have n0_ := Aside0.mk (hp_); have n1_ := Aside0.mk ((by rw [hw]; exact below_set (HB.out) GB38.out : Below w.heap.size w w41)); clear HO167; clear HB; have HO167 := n0_; have HB := n1_; clear n0_ n1_; clear hg hw hp_))
                                          repeat (go_quiet (first | ((with_reducible refine gate_store (t := 30) (p := 86) rfl ?_); (try (rw [drewN_self wc]; generalize hq_ : World.drewN wc _ = wc; have n0_ := Aside0.mk (Kd.R_at hq_ HO167.out); have n1_ := Aside0.mk (below_at hq_ HB.out); clear hq_ HO167 HB; have HO167 := n0_; have HB := n1_; clear n0_ n1_; (try (have HP40 := Kd.R_putg HO167.out ((ji29) : Int) (Go.bits .and .u64 (rd x4_1 (ji29)) (rd x4_1 (ji32))))); (try (obtain ⟨hx38_0, hf38_0⟩ := Kd.R_celln 0 HO167.out ((ji29) : Int) (of_eq_true p38) (of_eq_true q38))))); refine store_event (t := 30) (p := 86) (v := ?vo_w41) (w1 := (wc.setCell ⟨go38, ((ji29) : Int).toNat, none⟩ (.int .u64 (Go.bits .and .u64 (rd x4_1 (ji29)) (rd x4_1 (ji32)))))) ?hg ?ho ?hn ?hr ?_; (case ho => rfl); (case hg => rfl); (case hn => rfl); (case hr => first | (go_simp; done) | (go_simp; rfl)); intro w41 hw; have hg : wc.grownBy w41 (some go38) := (by rw [hw]; exact HP40.2); have hp_ : Kd.R (Kd.int .u64) 30 w41 w.heap.size (fun _ => True) (.slice (some ⟨go38, 0, none⟩) y165.length co16) y168 := (by rw [hw, Ny168.out]; exact HP40.1); clear HP40; have n0_ := Aside0.mk (hp_); have n1_ := Aside0.mk ((by rw [hw]; exact below_set (HB.out) GB38.out : Below w.heap.size w w41)); clear HO167; clear HB; have HO167 := n0_; have HB := n1_; clear n0_ n1_; clear hg hw hp_)); try go_wp2_with (first | ((with_reducible refine gate_store (t := 30) (p := 86) rfl ?_); (try (rw [drewN_self wc]; generalize hq_ : World.drewN wc _ = wc; have n0_ := Aside0.mk (Kd.R_at hq_ HO167.out); have n1_ := Aside0.mk (below_at hq_ HB.out); clear hq_ HO167 HB; have HO167 := n0_; have HB := n1_; clear n0_ n1_; (try (have HP40 := Kd.R_putg HO167.out ((ji29) : Int) (Go.bits .and .u64 (rd x4_1 (ji29)) (rd x4_1 (ji32))))); (try (obtain ⟨hx38_0, hf38_0⟩ := Kd.R_celln 0 HO167.out ((ji29) : Int) (of_eq_true p38) (of_eq_true q38))))); refine store_event (t := 30) (p := 86) (v := ?vo_w41) (w1 := (wc.setCell ⟨go38, ((ji29) : Int).toNat, none⟩ (.int .u64 (Go.bits .and .u64 (rd x4_1 (ji29)) (rd x4_1 (ji32)))))) ?hg ?ho ?hn ?hr ?_; (case ho => rfl); (case hg => rfl); (case hn => rfl); (case hr => first | (go_simp; done) | (go_simp; rfl)); intro w41 hw; have hg : wc.grownBy w41 (some go38) := (by rw [hw]; exact HP40.2); have hp_ : Kd.R (Kd.int .u64) 30 w41 w.heap.size (fun _ => True) (.slice (some ⟨go38, 0, none⟩) y165.length co16) y168 := (by rw [hw, Ny168.out]; exact HP40.1); clear HP40; have n0_ := Aside0.mk (hp_); have n1_ := Aside0.mk ((by rw [hw]; exact below_set (HB.out) GB38.out : Below w.heap.size w w41)); clear HO167; clear HB; have HO167 := n0_; have HB := n1_; clear n0_ n1_; clear hg hw hp_)))
                                          go_roundg kj24
                                          case measure => have := HK1.out; have := HJ14.out; have := HJ24.out; omega
                                          case rel => exact ⟨(y168), (wrap64 (x17_1 + 1)), (by first | rfl | (simp; done) | (simp [*]; done)), H', ⟨by have := HK1.out; have := HJ14.out; have := HJ24.out; omega⟩, ⟨by (with_reducible repeat (first | apply Kd.R_alloc | apply Kd.R_drewN | apply Kd.R_drew)); exact HO167.out⟩, ⟨by repeat (first | (with_reducible first | exact HB.out | apply below_alloc | apply pw_below_drewN | apply below_drew1) | exact HB.out)⟩⟩
                                        · rw [if_neg c37] at H
                                          exact absurd H (by simp)
                                      · rw [if_neg c36] at H
                                        have c36b0 : ((rd l0 x17_1) == (-2)) = false := beq_eq_false_iff_ne.mpr c36
                                        have c36b1 : ((rd l0 x17_1) != (-2)) = true := bne_iff_ne.mpr c36
                                        by_cases c42 : (rd l0 x17_1) = (-3)
                                        · rw [if_pos c42] at H
                                          have c42b0 : ((rd l0 x17_1) == (-3)) = true := beq_iff_eq.mpr c42
                                          have c42b1 : ((rd l0 x17_1) != (-3)) = false := bne_eq_false_iff_eq.mpr c42
                                          clear c42
                                          by_cases c43 : (ji29) < (y165.length : Int)
                                          · rw [if_pos c43] at H
                                            have c43b0 : decide ((ji29) < (y165.length : Int)) = true := decide_eq_true c43
                                            clear c43
                                            obtain ⟨y169, hy169⟩ : ∃ y_ : List Int, y_ = (y165.set ((ji29) : Int).toNat (Go.bits .or .u64 (rd x4_1 (ji29)) (rd x4_1 (ji32)))) := ⟨_, rfl⟩
                                            replace H : (impl_rowsOf.l0 kj24 y169 l0 (l0.length : Int) (wrap64 (x17_1 + 1))) = some (r1, r2) := by first | (rw [hy169]; with_reducible exact H) | (have H2_ := (Option.bind_some _ _).symm.trans H; rw [hy169]; with_reducible exact H2_) | (have H2_ := (Option.bind_some _ _).symm.trans H; with_reducible exact H2_) | with_reducible exact H | (rw [hy169]; exact H) | exact H
                                            have Ny169 := Aside0.mk hy169
                                            clear hy169
                                            have H' := Aside0.mk H
                                            clear H
                                            have p163 : 0 ≤ ((ji29) : Int) := of_decide_eq_true (by first | (with_reducible assumption) | assumption)
                                            have q163 : (ji29) < (x4_1.length : Int) := of_decide_eq_true (by first | (with_reducible assumption) | assumption)
                                            obtain ⟨ad163, e163, hx163_0⟩ := Kd.at_int (Kd.R_reads' HO_4.out).2.2 (ji29) p163 q163
                                            cases e163
                                            replace p163 := eq_true p163
                                            replace q163 := eq_true q163
                                            have p164 : 0 ≤ ((ji32) : Int) := of_decide_eq_true (by first | (with_reducible assumption) | assumption)
                                            have q164 : (ji32) < (x4_1.length : Int) := of_decide_eq_true (by first | (with_reducible assumption) | assumption)
                                            obtain ⟨ad164, e164, hx164_0⟩ := Kd.at_int (Kd.R_reads' HO_4.out).2.2 (ji32) p164 q164
                                            obtain rfl : ad163 = ad164 := (by injection e164)
                                            replace p164 := eq_true p164
                                            replace q164 := eq_true q164
                                            have q45 : ((ji32) : Int) ≤ ((x4_1.length : Int) : Int) := of_decide_eq_true (by first | (with_reducible assumption) | assumption)
                                            obtain ⟨i045, hi045, _, hsz45, _⟩ := info_parts info30
                                            have hcut45 := cut_to (P := Tryd.prog) 36 30 .i64 Tryd.underlying36 hi045 (some ad163) x4_1.length co16 (ji32) (of_decide_eq_true (by first | (with_reducible assumption) | assumption)) q45 (Kd.R_reads' HO_4.out).2.1
                                            have hr45 := Kd.R_take (m := ((ji32) : Int).toNat) HO_4.out (by first | omega | (rw [Ny169.out, List.length_set]; omega) | (rw [Ny168.out, List.length_set]; omega) | (rw [Ny165.out, List.length_set]; omega) | (rw [Ny161.out, List.length_set]; omega) | (rw [Ny157.out, List.length_set]; omega) | (rw [Ny150.out, List.length_set]; omega))
                                            have hy45 : y165.length = ((ji32) : Int).toNat := (by first | (rw [Ny165.out, List.length_take]; omega) | (rw [Ny165.out, List.length_take, Ny169.out, List.length_set]; omega) | (rw [Ny165.out, List.length_take, Ny168.out, List.length_set]; omega) | (rw [Ny165.out, List.length_take, Ny161.out, List.length_set]; omega) | (rw [Ny165.out, List.length_take, Ny157.out, List.length_set]; omega) | (rw [Ny165.out, List.length_take, Ny150.out, List.length_set]; omega))
                                            rw [← Ny165.out] at hr45
                                            rw [← hy45] at hr45 hcut45
                                            clear hy45 hi045 hsz45 HO_4
                                            have HO167 := Aside0.mk hr45
                                            clear hr45
                                            replace q45 := eq_true q45
                                            have p44 : 0 ≤ ((ji29) : Int) := of_decide_eq_true (by first | (with_reducible assumption) | assumption)
                                            have q44 : ((ji29) : Int) < ((y165.length : Int) : Int) := of_decide_eq_true (by first | (with_reducible assumption) | assumption)
                                            obtain ⟨go44, co44, eo44, gb44, gl44, cl44, HG44⟩ := Kd.R_form HO167.out (by omega)
                                            (first | cases eo44 | (injection eo44 with ea_ en_ ec_; (first | subst ea_ | (injection ea_ with ea_; subst ea_)); subst ec_; clear en_))
                                            have GB44 := Aside0.mk gb44
                                            have GG44 := Aside0.mk HG44
                                            clear gb44 gl44 HG44
                                            (first | simp only [add_plain] at hx163_0 | skip)
                                            (first | simp only [add_plain] at hx164_0 | skip)
                                            obtain ⟨hx44_0, hf44_0⟩ := Kd.R_celln 0 HO167.out ((ji29) : Int) p44 q44
                                            replace p44 := eq_true p44
                                            replace q44 := eq_true q44
                                            have HP46 := Kd.R_putg HO167.out ((ji29) : Int) (Go.bits .or .u64 (rd x4_1 (ji29)) (rd x4_1 (ji32)))
                                            go_wp2_with (first | ((with_reducible refine gate_store (t := 30) (p := 95) rfl ?_); (try (rw [drewN_self wc]; generalize hq_ : World.drewN wc _ = wc; have n0_ := Aside0.mk (Kd.R_at hq_ HO167.out); have n1_ := Aside0.mk (below_at hq_ HB.out); clear hq_ HO167 HB; have HO167 := n0_; have HB := n1_; clear n0_ n1_; (try (have HP46 := Kd.R_putg HO167.out ((ji29) : Int) (Go.bits .or .u64 (rd x4_1 (ji29)) (rd x4_1 (ji32))))); (try (obtain ⟨hx44_0, hf44_0⟩ := Kd.R_celln 0 HO167.out ((ji29) : Int) (of_eq_true p44) (of_eq_true q44))))); refine store_event (t := 30) (p := 95) (v := ?vo_w47) (w1 := (wc.setCell ⟨go44, ((ji29) : Int).toNat, none⟩ (.int .u64 (Go.bits .or .u64 (rd x4_1 (ji29)) (rd x4_1 (ji32)))))) ?hg ?ho ?hn ?hr ?_; (case ho => rfl); (case hg => rfl); (case hn => rfl); (case hr => first | (go_simp; done) | (go_simp; rfl)); intro w47 hw; have hg : wc.grownBy w47 (some go44) := (by rw [hw]; exact HP46.2); have hp_ : Kd.R (Kd.int .u64) 30 w47 w.heap.size (fun _ => True) (.slice (some ⟨go44, 0, none⟩) y165.length co16) y169 := (by rw [hw, Ny169.out]; exact HP46.1); clear HP46; have n0_ := Aside0.mk (hp_); have n1_ := Aside0.mk ((by rw [hw]; exact below_set (HB.out) GB44.out : Below w.heap.size w w47)); clear HO167; clear HB; have HO167 := n0_; have HB := n1_; clear n0_ n1_; clear hg hw hp_))
                                            repeat (go_quiet (first | ((with_reducible refine gate_store (t := 30) (p := 95) rfl ?_); (try (rw [drewN_self wc]; generalize hq_ : World.drewN wc _ = wc; have n0_ := Aside0.mk (Kd.R_at hq_ HO167.out); have n1_ := Aside0.mk (below_at hq_ HB.out); clear hq_ HO167 HB; have HO167 := n0_; have HB := n1_; clear n0_ n1_; (try (have HP46 := Kd.R_putg HO167.out ((ji29) : Int) (Go.bits .or .u64 (rd x4_1 (ji29)) (rd x4_1 (ji32))))); (try (obtain ⟨hx44_0, hf44_0⟩ := Kd.R_celln 0 HO167.out ((ji29) : Int) (of_eq_true p44) (of_eq_true q44))))); refine store_event (t := 30) (p := 95) (v := ?vo_w47) (w1 := (wc.setCell ⟨go44, ((ji29) : Int).toNat, none⟩ (.int .u64 (Go.bits .or .u64 (rd x4_1 (ji29)) (rd x4_1 (ji32)))))) ?hg ?ho ?hn ?hr ?_; (case ho => rfl); (case hg => rfl); (case hn => rfl); (case hr => first | (go_simp; done) | (go_simp; rfl)); intro w47 hw; have hg : wc.grownBy w47 (some go44) := (by rw [hw]; exact HP46.2); have hp_ : Kd.R (Kd.int .u64) 30 w47 w.heap.size (fun _ => True) (.slice (some ⟨go44, 0, none⟩) y165.length co16) y169 := (by rw [hw, Ny169.out]; exact HP46.1); clear HP46; have n0_ := Aside0.mk (hp_); have n1_ := Aside0.mk ((by rw [hw]; exact below_set (HB.out) GB44.out : Below w.heap.size w w47)); clear HO167; clear HB; have HO167 := n0_; have HB := n1_; clear n0_ n1_; clear hg hw hp_)); try go_wp2_with (first | ((with_reducible refine gate_store (t := 30) (p := 95) rfl ?_); (try (rw [drewN_self wc]; generalize hq_ : World.drewN wc _ = wc; have n0_ := Aside0.mk (Kd.R_at hq_ HO167.out); have n1_ := Aside0.mk (below_at hq_ HB.out); clear hq_ HO167 HB; have HO167 := n0_; have HB := n1_; clear n0_ n1_; (try (have HP46 := Kd.R_putg HO167.out ((ji29) : Int) (Go.bits .or .u64 (rd x4_1 (ji29)) (rd x4_1 (ji32))))); (try (obtain ⟨hx44_0, hf44_0⟩ := Kd.R_celln 0 HO167.out ((ji29) : Int) (of_eq_true p44) (of_eq_true q44))))); refine store_event (t := 30) (p := 95) (v := ?vo_w47) (w1 := (wc.setCell ⟨go44, ((ji29) : Int).toNat, none⟩ (.int .u64 (Go.bits .or .u64 (rd x4_1 (ji29)) (rd x4_1 (ji32)))))) ?hg ?ho ?hn ?hr ?_; (case ho => rfl); (case hg => rfl); (case hn => rfl); (case hr => first | (go_simp; done) | (go_simp; rfl)); intro w47 hw; have hg : wc.grownBy w47 (some go44) := (by rw [hw]; exact HP46.2); have hp_ : Kd.R (Kd.int .u64) 30 w47 w.heap.size (fun _ => True) (.slice (some ⟨go44, 0, none⟩) y165.length co16) y169 := (by rw [hw, Ny169.out]; exact HP46.1); clear HP46; have n0_ := Aside0.mk (hp_); have n1_ := Aside0.mk ((by rw [hw]; exact below_set (HB.out) GB44.out : Below w.heap.size w w47)); clear HO167; clear HB; have HO167 := n0_; have HB := n1_; clear n0_ n1_; clear hg hw hp_)))
                                            go_roundg kj24
                                            case measure => have := HK1.out; have := HJ14.out; have := HJ24.out; omega
                                            case rel => exact ⟨(y169), (wrap64 (x17_1 + 1)), (by first | rfl | (simp; done) | (simp [*]; done)), H', ⟨by have := HK1.out; have := HJ14.out; have := HJ24.out; omega⟩, ⟨by (with_reducible repeat (first | apply Kd.R_alloc | apply Kd.R_drewN | apply Kd.R_drew)); exact HO167.out⟩, ⟨by repeat (first | (with_reducible first | exact HB.out | apply below_alloc | apply pw_below_drewN | apply below_drew1) | exact HB.out)⟩⟩
                                          · rw [if_neg c43] at H
                                            exact absurd H (by simp)
                                        · rw [if_neg c42] at H
                                          have c42b0 : ((rd l0 x17_1) == (-3)) = false := beq_eq_false_iff_ne.mpr c42
                                          have c42b1 : ((rd l0 x17_1) != (-3)) = true := bne_iff_ne.mpr c42
                                          by_cases c48 : (ji29) < (y165.length : Int)
                                          · rw [if_pos c48] at H
                                            have c48b0 : decide ((ji29) < (y165.length : Int)) = true := decide_eq_true c48
                                            clear c48
                                            obtain ⟨y170, hy170⟩ : ∃ y_ : List Int, y_ = (y165.set ((ji29) : Int).toNat (Go.bits .or .u64 (Go.bits .xor .u64 18446744073709551615 (rd x4_1 (ji29))) (rd x4_1 (ji32)))) := ⟨_, rfl⟩
                                            replace H : (impl_rowsOf.l0 kj24 y170 l0 (l0.length : Int) (wrap64 (x17_1 + 1))) = some (r1, r2) := by first | (rw [hy170]; with_reducible exact H) | (have H2_ := (Option.bind_some _ _).symm.trans H; rw [hy170]; with_reducible exact H2_) | (have H2_ := (Option.bind_some _ _).symm.trans H; with_reducible exact H2_) | with_reducible exact H | (rw [hy170]; exact H) | exact H
                                            have Ny170 := Aside0.mk hy170
                                            clear hy170
                                            have H' := Aside0.mk H
                                            clear H
                                            have p163 : 0 ≤ ((ji29) : Int) := of_decide_eq_true (by first | (with_reducible assumption) | assumption)
                                            have q163 : (ji29) < (x4_1.length : Int) := of_decide_eq_true (by first | (with_reducible assumption) | assumption)
                                            obtain ⟨ad163, e163, hx163_0⟩ := Kd.at_int (Kd.R_reads' HO_4.out).2.2 (ji29) p163 q163
                                            cases e163
                                            replace p163 := eq_true p163
                                            replace q163 := eq_true q163
                                            have p164 : 0 ≤ ((ji32) : Int) := of_decide_eq_true (by first | (with_reducible assumption) | assumption)
                                            have q164 : (ji32) < (x4_1.length : Int) := of_decide_eq_true (by first | (with_reducible assumption) | assumption)
                                            obtain ⟨ad164, e164, hx164_0⟩ := Kd.at_int (Kd.R_reads' HO_4.out).2.2 (ji32) p164 q164
                                            obtain rfl : ad163 = ad164 := (by injection e164)
                                            replace p164 := eq_true p164
                                            replace q164 := eq_true q164
                                            have q50 : ((ji32) : Int) ≤ ((x4_1.length : Int) : Int) := of_decide_eq_true (by first | (with_reducible assumption) | assumption)
                                            obtain ⟨i050, hi050, _, hsz50, _⟩ := info_parts info30
                                            have hcut50 := cut_to (P := Tryd.prog) 36 30 .i64 Tryd.underlying36 hi050 (some ad163) x4_1.length co16 (ji32) (of_decide_eq_true (by first | (with_reducible assumption) | assumption)) q50 (Kd.R_reads' HO_4.out).2.1
                                            have hr50 := Kd.R_take (m := ((ji32) : Int).toNat) HO_4.out (by first | omega | (rw [Ny170.out, List.length_set]; omega) | (rw [Ny169.out, List.length_set]; omega) | (rw [Ny168.out, List.length_set]; omega) | (rw [Ny165.out, List.length_set]; omega) | (rw [Ny161.out, List.length_set]; omega) | (rw [Ny157.out, List.length_set]; omega) | (rw [Ny150.out, List.length_set]; omega))
                                            have hy50 : y165.length = ((ji32) : Int).toNat := (by first | (rw [Ny165.out, List.length_take]; omega) | (rw [Ny165.out, List.length_take, Ny170.out, List.length_set]; omega) | (rw [Ny165.out, List.length_take, Ny169.out, List.length_set]; omega) | (rw [Ny165.out, List.length_take, Ny168.out, List.length_set]; omega) | (rw [Ny165.out, List.length_take, Ny161.out, List.length_set]; omega) | (rw [Ny165.out, List.length_take, Ny157.out, List.length_set]; omega) | (rw [Ny165.out, List.length_take, Ny150.out, List.length_set]; omega))
                                            rw [← Ny165.out] at hr50
                                            rw [← hy50] at hr50 hcut50
                                            clear hy50 hi050 hsz50 HO_4
                                            have HO167 := Aside0.mk hr50
                                            clear hr50
                                            replace q50 := eq_true q50
                                            have p49 : 0 ≤ ((ji29) : Int) := of_decide_eq_true (by first | (with_reducible assumption) | assumption)
                                            have q49 : ((ji29) : Int) < ((y165.length : Int) : Int) := of_decide_eq_true (by first | (with_reducible assumption) | assumption)
                                            obtain ⟨go49, co49, eo49, gb49, gl49, cl49, HG49⟩ := Kd.R_form HO167.out (by omega)
                                            (first | cases eo49 | (injection eo49 with ea_ en_ ec_; (first | subst ea_ | (injection ea_ with ea_; subst ea_)); subst ec_; clear en_))
                                            have GB49 := Aside0.mk gb49
                                            have GG49 := Aside0.mk HG49
                                            clear gb49 gl49 HG49
                                            (first | simp only [add_plain] at hx163_0 | skip)
                                            (first | simp only [add_plain] at hx164_0 | skip)
                                            obtain ⟨hx49_0, hf49_0⟩ := Kd.R_celln 0 HO167.out ((ji29) : Int) p49 q49
                                            replace p49 := eq_true p49
                                            replace q49 := eq_true q49
                                            have HP51 := Kd.R_putg HO167.out ((ji29) : Int) (Go.bits .or .u64 (Go.bits .xor .u64 18446744073709551615 (rd x4_1 (ji29))) (rd x4_1 (ji32)))
                                            go_wp2_with (first | ((with_reducible refine gate_store (t := 30) (p := 77) rfl ?_); (try (rw [drewN_self wc]; generalize hq_ : World.drewN wc _ = wc; have n0_ := Aside0.mk (Kd.R_at hq_ HO167.out); have n1_ := Aside0.mk (below_at hq_ HB.out); clear hq_ HO167 HB; have HO167 := n0_; have HB := n1_; clear n0_ n1_; (try (have HP51 := Kd.R_putg HO167.out ((ji29) : Int) (Go.bits .or .u64 (Go.bits .xor .u64 18446744073709551615 (rd x4_1 (ji29))) (rd x4_1 (ji32))))); (try (obtain ⟨hx49_0, hf49_0⟩ := Kd.R_celln 0 HO167.out ((ji29) : Int) (of_eq_true p49) (of_eq_true q49))))); refine store_event (t := 30) (p := 77) (v := ?vo_w52) (w1 := (wc.setCell ⟨go49, ((ji29) : Int).toNat, none⟩ (.int .u64 (Go.bits .or .u64 (Go.bits .xor .u64 18446744073709551615 (rd x4_1 (ji29))) (rd x4_1 (ji32)))))) ?hg ?ho ?hn ?hr ?_; (case ho => rfl); (case hg => rfl); (case hn => rfl); (case hr => first | (go_simp; done) | (go_simp; rfl)); intro w52 hw; have hg : wc.grownBy w52 (some go49) := (by rw [hw]; exact HP51.2); have hp_ : Kd.R (Kd.int .u64) 30 w52 w.heap.size (fun _ => True) (.slice (some ⟨go49, 0, none⟩) y165.length co16) y170 := (by rw [hw, Ny170.out]; exact HP51.1); clear HP51; have n0_ := Aside0.mk (hp_); have n1_ := Aside0.mk ((by rw [hw]; exact below_set (HB.out) GB49.out : Below w.heap.size w w52)); clear HO167; clear HB; have HO167 := n0_; have HB := n1_; clear n0_ n1_; clear hg hw hp_))
                                            repeat (go_quiet (first | ((with_reducible refine gate_store (t := 30) (p := 77) rfl ?_); (try (rw [drewN_self wc]; generalize hq_ : World.drewN wc _ = wc; have n0_ := Aside0.mk (Kd.R_at hq_ HO167.out); have n1_ := Aside0.mk (below_at hq_ HB.out); clear hq_ HO167 HB; have HO167 := n0_; have HB := n1_; clear n0_ n1_; (try (have HP51 := Kd.R_putg HO167.out ((ji29) : Int) (Go.bits .or .u64 (Go.bits .xor .u64 18446744073709551615 (rd x4_1 (ji29))) (rd x4_1 (ji32))))); (try (obtain ⟨hx49_0, hf49_0⟩ := Kd.R_celln 0 HO167.out ((ji29) : Int) (of_eq_true p49) (of_eq_true q49))))); refine store_event (t := 30) (p := 77) (v := ?vo_w52) (w1 := (wc.setCell ⟨go49, ((ji29) : Int).toNat, none⟩ (.int .u64 (Go.bits .or .u64 (Go.bits .xor .u64 18446744073709551615 (rd x4_1 (ji29))) (rd x4_1 (ji32)))))) ?hg ?ho ?hn ?hr ?_; (case ho => rfl); (case hg => rfl); (case hn => rfl); (case hr => first | (go_simp; done) | (go_simp; rfl)); intro w52 hw; have hg : wc.grownBy w52 (some go49) := (by rw [hw]; exact HP51.2); have hp_ : Kd.R (Kd.int .u64) 30 w52 w.heap.size (fun _ => True) (.slice (some ⟨go49, 0, none⟩) y165.length co16) y170 := (by rw [hw, Ny170.out]; exact HP51.1); clear HP51; have n0_ := Aside0.mk (hp_); have n1_ := Aside0.mk ((by rw [hw]; exact below_set (HB.out) GB49.out : Below w.heap.size w w52)); clear HO167; clear HB; have HO167 := n0_; have HB := n1_; clear n0_ n1_; clear hg hw hp_)); try go_wp2_with (first | ((with_reducible refine gate_store (t := 30) (p := 77) rfl ?_); (try (rw [drewN_self wc]; generalize hq_ : World.drewN wc _ = wc; have n0_ := Aside0.mk (Kd.R_at hq_ HO167.out); have n1_ := Aside0.mk (below_at hq_ HB.out); clear hq_ HO167 HB; have HO167 := n0_; have HB := n1_; clear n0_ n1_; (try (have HP51 := Kd.R_putg HO167.out ((ji29) : Int) (Go.bits .or .u64 (Go.bits .xor .u64 18446744073709551615 (rd x4_1 (ji29))) (rd x4_1 (ji32))))); (try (obtain ⟨hx49_0, hf49_0⟩ := Kd.R_celln 0 HO167.out ((ji29) : Int) (of_eq_true p49) (of_eq_true q49))))); refine store_event (t := 30) (p := 77) (v := ?vo_w52) (w1 := (wc.setCell ⟨go49, ((ji29) : Int).toNat, none⟩ (.int .u64 (Go.bits .or .u64 (Go.bits .xor .u64 18446744073709551615 (rd x4_1 (ji29))) (rd x4_1 (ji32)))))) ?hg ?ho ?hn ?hr ?_; (case ho => rfl); (case hg => rfl); (case hn => rfl); (case hr => first | (go_simp; done) | (go_simp; rfl)); intro w52 hw; have hg : wc.grownBy w52 (some go49) := (by rw [hw]; exact HP51.2); have hp_ : Kd.R (Kd.int .u64) 30 w52 w.heap.size (fun _ => True) (.slice (some ⟨go49, 0, none⟩) y165.length co16) y170 := (by rw [hw, Ny170.out]; exact HP51.1); clear HP51; have n0_ := Aside0.mk (hp_); have n1_ := Aside0.mk ((by rw [hw]; exact below_set (HB.out) GB49.out : Below w.heap.size w w52)); clear HO167; clear HB; have HO167 := n0_; have HB := n1_; clear n0_ n1_; clear hg hw hp_)))
                                            go_roundg kj24
                                            case measure => have := HK1.out; have := HJ14.out; have := HJ24.out; omega
                                            case rel => exact ⟨(y170), (wrap64 (x17_1 + 1)), (by first | rfl | (simp; done) | (simp [*]; done)), H', ⟨by have := HK1.out; have := HJ14.out; have := HJ24.out; omega⟩, ⟨by (with_reducible repeat (first | apply Kd.R_alloc | apply Kd.R_drewN | apply Kd.R_drew)); exact HO167.out⟩, ⟨by repeat (first | (with_reducible first | exact HB.out | apply below_alloc | apply pw_below_drewN | apply below_drew1) | exact HB.out)⟩⟩
                                          · rw [if_neg c48] at H
                                            exact absurd H (by simp)
                                    · rw [if_neg c35] at H
                                      exact absurd H (by simp)
                                  · rw [if_neg c34] at H
                                    exact absurd H (by simp)
                                · rw [if_neg c33] at H
                                  exact absurd H (by simp)
                              · rw [if_neg c31] at H
                                exact absurd H (by simp)
                            · rw [if_neg c30] at H
                              exact absurd H (by simp)
                          · replace c28 := Bool.eq_false_iff.mpr c28
                            subst c28
                            have H1 : (some (0, false)) = some (r1, r2) := by rw [if_neg (show ¬ (false = true) by decide)] at H; exact H
                            clear H
                            have H := H1
                            clear H1
                            simp only [Option.some.injEq, Prod.mk.injEq] at H
                            obtain ⟨rfl, rfl⟩ := H
                            go_wp2
                            repeat (go_quiet (fail); try go_wp2)
                            go_ret2
                            exact ⟨by first | rfl | (simp [errW_none, errW_some] <;> rfl) | (simp [*, errW_none, errW_some] <;> rfl), by repeat (first | (with_reducible first | exact HB.out | apply below_alloc | apply pw_below_drewN | apply below_drew1) | exact HB.out)⟩
            · rw [if_neg c8] at H
              exact absurd H (by simp)
          · rw [if_neg c7] at H
            exact absurd H (by simp)
        · rw [if_neg c6] at H
          have c6b0 : decide (x17_1 < (l0.length : Int)) = false := decide_eq_false c6
          clear c6
          by_cases c53 : 0 < (x4_1.length : Int)
          · rw [if_pos c53] at H
            have c53b0 : decide (0 < (x4_1.length : Int)) = true := decide_eq_true c53
            have c53b1 : decide (0 < x4_1.length) = true := decide_eq_true (by omega)
            clear c53
            simp only [Option.some.injEq, Prod.mk.injEq] at H
            obtain ⟨rfl, rfl⟩ := H
            obtain ⟨Ao54, co54, eo54⟩ := Kd.R_slice HO_4.out
            subst eo54
            have p153 : 0 ≤ (0 : Int) := (by omega)
            have q153 : 0 < (x4_1.length : Int) := of_decide_eq_true (by first | (with_reducible assumption) | assumption)
            obtain ⟨ad153, e153, hx153_0⟩ := Kd.at_int (Kd.R_reads' HO_4.out).2.2 0 p153 q153
            cases e153
            have qi153 : (0 < x4_1.length) = True := eq_true (by omega)
            (try rw [show ((0 : Int)).toNat = 0 from rfl] at hx153_0)
            (try rw [Addr.add_zero'] at hx153_0)
            replace p153 := eq_true p153
            replace q153 := eq_true q153
            go_wp2
            repeat (go_quiet (fail); try go_wp2)
            go_ret2
            exact ⟨by first | rfl | (simp [errW_none, errW_some] <;> rfl) | (simp [*, errW_none, errW_some] <;> rfl), by repeat (first | (with_reducible first | exact HB.out | apply below_alloc | apply pw_below_drewN | apply below_drew1) | exact HB.out)⟩
          · rw [if_neg c53] at H
            exact absurd H (by simp)
  · replace c3 := Bool.eq_false_iff.mpr c3
    subst c3
    have H1 : (some (0, false)) = some (r1, r2) := by rw [if_neg (show ¬ (false = true) by decide)] at H; exact H
    clear H
    have H := H1
    clear H1
    simp only [Option.some.injEq, Prod.mk.injEq] at H
    obtain ⟨rfl, rfl⟩ := H
    go_enter Tryd.func10, Tryd.ntmps10
    go_wp2_with (first | (go_at_call 14; (with_reducible refine (impl_InRange.calls (l0.length : Int) 1 24 false _ A2.out).mono ?_); rintro e w' ⟨rfl, ⟨nd, rfl⟩⟩; (try first | exact ⟨rfl, _, World.drewN_drewN _ _ _⟩ | exact ⟨rfl, _, Eq.trans (World.drewN_drewN _ _ _) (congrArg (World.drewN _) (Nat.add_assoc _ _ _))⟩)))
    repeat (go_quiet (first | (go_at_call 14; (with_reducible refine (impl_InRange.calls (l0.length : Int) 1 24 false _ A2.out).mono ?_); rintro e w' ⟨rfl, ⟨nd, rfl⟩⟩; (try first | exact ⟨rfl, _, World.drewN_drewN _ _ _⟩ | exact ⟨rfl, _, Eq.trans (World.drewN_drewN _ _ _) (congrArg (World.drewN _) (Nat.add_assoc _ _ _))⟩))); try go_wp2_with (first | (go_at_call 14; (with_reducible refine (impl_InRange.calls (l0.length : Int) 1 24 false _ A2.out).mono ?_); rintro e w' ⟨rfl, ⟨nd, rfl⟩⟩; (try first | exact ⟨rfl, _, World.drewN_drewN _ _ _⟩ | exact ⟨rfl, _, Eq.trans (World.drewN_drewN _ _ _) (congrArg (World.drewN _) (Nat.add_assoc _ _ _))⟩))))
    go_ret2
    exact ⟨by first | rfl | (simp [errW_none, errW_some] <;> rfl) | (simp [*, errW_none, errW_some] <;> rfl), by repeat (first | (with_reducible first | exact HB.out | apply below_alloc | apply pw_below_drewN | apply below_drew1) | exact HB.out)⟩

/-! ### bits_TrailingZeros64: function 11 -/
/-- The library's table lies in its variable. -/
def TabW (w : World) : Prop := 0 < w.heap.size ∧ TabAt 0 Lib.deBruijn64tab w
theorem TabW.up {w w' : World} (h : TabW w) (hb : Below w.heap.size w w') : TabW w' :=
  ⟨Nat.lt_of_lt_of_le h.1 hb.size, fun j hj => (hb.cell (p := ⟨0, j, none⟩) h.1).trans (h.2 j hj)⟩
def bits_TrailingZeros64.f (a0 : Int) : Option (Int) := if 0 ≤ a0 ∧ a0 < 18446744073709551616 then some ((Lib.ctz 64 a0.toNat : Nat) : Int) else none
set_option maxHeartbeats 8000000 in
set_option maxRecDepth 100000 in
theorem bits_TrailingZeros64.zero_ (w : World) :
    Calls Tryd.prog 11 #[.int .u64 0] w fun e w' => e = .returned (.int .i64 64) ∧ Drawn0 w w' := by
  go_enter Tryd.func11, Tryd.ntmps11
  go_wp2
  go_ret
  exact ⟨by first | rfl | (simp; done) | (simp [*]; done), by repeat (first | exact Drawn0.refl _ | apply Drawn0.step)⟩
set_option maxHeartbeats 8000000 in
set_option maxRecDepth 100000 in
theorem bits_TrailingZeros64.core_ (x k idx : Nat) (w : World) (hx0 : ((x : Int) == 0) = false)
    (key : IntKind.u64.wrap (bits BinOp.and IntKind.u64 (x : Int) (IntKind.u64.wrap (-(x : Int))) * 285870213051353865) / 288230376151711744 = (idx : Int))
    (hi : idx < 64) (hk : k < 64) (hcell : w.cell? ⟨0, idx, none⟩ = some (.int .u8 k)) :
    Calls Tryd.prog 11 #[.int .u64 x] w fun e w' => e = .returned (.int .i64 k) ∧ Drawn0 w w' := by
  go_enter Tryd.func11, Tryd.ntmps11
  go_wp2_with (simp only [key])
  go_ret
  exact ⟨by first | rfl | (simp; done) | (simp [*]; done), by repeat (first | exact Drawn0.refl _ | apply Drawn0.step)⟩
theorem bits_TrailingZeros64.calls (a0 : Int) (r : Int) (w : World) (hT : TabW w) (h : bits_TrailingZeros64.f a0 = some r) :
    Calls Tryd.prog 11 #[.int .u64 a0] w fun e w' => e = .returned (.int .i64 r) ∧ Drawn0 w w' := by
  unfold bits_TrailingZeros64.f at h
  split at h
  · rename_i hx
    obtain rfl := Option.some.inj h
    obtain ⟨x, rfl⟩ : ∃ x : Nat, a0 = (x : Int) := ⟨a0.toNat, (Int.toNat_of_nonneg hx.1).symm⟩
    rw [Int.toNat_natCast]
    have hx2 : x < 18446744073709551616 := by omega
    by_cases hx0 : x = 0
    · subst hx0
      exact bits_TrailingZeros64.zero_ w
    · obtain ⟨hlow, hk⟩ := Lib.lowest_bit 64 x hx0 hx2
      obtain ⟨hi, htab⟩ := Lib.deBruijn64_at _ hk
      have hcell := hT.2 _ hi
      rw [htab] at hcell
      exact bits_TrailingZeros64.core_ x _ _ w (by simp; omega) (tz64_key x _ hx2 hx0 hlow) hi hk hcell
  · exact absurd h (by simp)

/-! ### impl_FirstRow: function 6 -/
def impl_FirstRow.f (k : Nat) (l0 : List Int) : Option (Int) := (impl_rowsOf.f k l0).bind fun bt171 => (if bt171.2 = true then (if bt171.1 = 0 then (some (-1)) else ((bits_TrailingZeros64.f bt171.1).bind fun t173 => (some t173))) else (some (-1)))
theorem impl_FirstRow.mono : ∀ a0 k, LeO (impl_FirstRow.f k a0) (impl_FirstRow.f (k + 1) a0) := by
  intro a0 k
  unfold impl_FirstRow.f
  repeat' first
      | (with_reducible exact impl_rowsOf.mono _ _)
      | (with_reducible exact LeO.refl _)
      | (with_reducible exact LeO.none _)
      | (with_reducible refine LeO.ite ?_ ?_)
      | (with_reducible refine LeO.bind ?_ (fun _ => ?_))
      | exact impl_rowsOf.mono _ _
      | exact LeO.none _
      | refine LeO.ite ?_ ?_
      | refine LeO.bind ?_ (fun _ => ?_)
set_option maxHeartbeats 8000000 in
set_option maxRecDepth 100000 in
theorem impl_FirstRow.calls (k : Nat) (A0 : Option Addr) (c0 : Nat) (l0 : List Int) (r : Int) (w : World) (hT : TabW w) (hr0 : Kd.C (Kd.int .i64) w A0 l0.length l0) (hc0 : l0.length ≤ c0) (h : impl_FirstRow.f k l0 = some r) :
    Calls Tryd.prog 6 #[.slice A0 l0.length c0] w fun e w' => e = .returned (.int .i64 r) ∧ Below w.heap.size w w' := by
  have HR0 := Aside0.mk hr0
  have HC0 := Aside0.mk hc0
  clear hr0 hc0
  have HT := Aside0.mk hT
  clear hT
  have HB := Aside0.mk (Below.refl w.heap.size w)
  have H : ((impl_rowsOf.f k l0).bind fun bt171 => (if bt171.2 = true then (if bt171.1 = 0 then (some (-1)) else ((bits_TrailingZeros64.f bt171.1).bind fun t173 => (some t173))) else (some (-1)))) = some r := h
  clear h
  replace H := Option.bind_eq_some_iff.mp H
  obtain ⟨⟨t171, t172⟩, A20, H⟩ := H
  replace H : (if t172 = true then (if t171 = 0 then (some (-1)) else ((bits_TrailingZeros64.f t171).bind fun t173 => (some t173))) else (some (-1))) = some r := H
  have A2 := Aside0.mk A20
  clear A20
  by_cases c3 : t172 = true
  · subst c3
    have H1 : (if t171 = 0 then (some (-1)) else ((bits_TrailingZeros64.f t171).bind fun t173 => (some t173))) = some r := by rw [if_pos rfl] at H; exact H
    clear H
    have H := H1
    clear H1
    by_cases c4 : t171 = 0
    · rw [if_pos c4] at H
      have c4b0 : (t171 == 0) = true := beq_iff_eq.mpr c4
      have c4b1 : (t171 != 0) = false := bne_eq_false_iff_eq.mpr c4
      clear c4
      obtain rfl := Option.some.inj H
      go_enter Tryd.func6, Tryd.ntmps6
      go_wp2_with (first | ((with_reducible refine gate_callee (f := 10) rfl ?_); refine goesL_ (some 7) rfl rfl Tryd.func10 (by kernel_rfl) rfl #[.slice A0 l0.length c0] rfl (by (try simp only [List.map_toArray, List.map_cons, List.map_nil]); first | done | rfl | (simp only [List.length_drop, List.length_take]; rfl)) ?_; (with_reducible refine (impl_rowsOf.calls k _ _ l0 t171 true _ ?side1 ?side2 A2.out).mono ?_); (case side1 => repeat (first | exact HR0.out | (with_reducible refine Kd.C_alloc ?_ _) | (with_reducible refine Kd.C_drewN ?_ _) | (with_reducible refine Kd.C_drew ?_))); (case side2 => exact HC0.out); rintro e w5 ⟨rfl, hb⟩; refine ⟨_, rfl, ?_⟩; have n0_ := Aside0.mk (below_step (by repeat (first | (with_reducible first | exact HB.out | apply below_alloc | apply pw_below_drewN | apply below_drew1) | exact HB.out)) hb); clear HB; have HB := n0_; clear n0_; (try clear hb); (try clear hb2); (try clear hk); (try clear hi)))
      go_ret
      exact ⟨by first | rfl | (simp [errW_none, errW_some] <;> rfl) | (simp [*, errW_none, errW_some] <;> rfl), by repeat (first | (with_reducible first | exact HB.out | apply below_alloc | apply pw_below_drewN | apply below_drew1) | exact HB.out)⟩
    · rw [if_neg c4] at H
      have c4b0 : (t171 == 0) = false := beq_eq_false_iff_ne.mpr c4
      have c4b1 : (t171 != 0) = true := bne_iff_ne.mpr c4
      replace H := Option.bind_eq_some_iff.mp H
      obtain ⟨t173, A60, H⟩ := H
      replace H : (some t173) = some r := H
      have A6 := Aside0.mk A60
      clear A60
      obtain rfl := Option.some.inj H
      go_enter Tryd.func6, Tryd.ntmps6
      go_wp2_with (first | ((with_reducible refine gate_callee (f := 10) rfl ?_); refine goesL_ (some 7) rfl rfl Tryd.func10 (by kernel_rfl) rfl #[.slice A0 l0.length c0] rfl (by (try simp only [List.map_toArray, List.map_cons, List.map_nil]); first | done | rfl | (simp only [List.length_drop, List.length_take]; rfl)) ?_; (with_reducible refine (impl_rowsOf.calls k _ _ l0 t171 true _ ?side1 ?side2 A2.out).mono ?_); (case side1 => repeat (first | exact HR0.out | (with_reducible refine Kd.C_alloc ?_ _) | (with_reducible refine Kd.C_drewN ?_ _) | (with_reducible refine Kd.C_drew ?_))); (case side2 => exact HC0.out); rintro e w7 ⟨rfl, hb⟩; refine ⟨_, rfl, ?_⟩; have n0_ := Aside0.mk (below_step (by repeat (first | (with_reducible first | exact HB.out | apply below_alloc | apply pw_below_drewN | apply below_drew1) | exact HB.out)) hb); clear HB; have HB := n0_; clear n0_; (try clear hb); (try clear hb2); (try clear hk); (try clear hi)) | ((with_reducible refine gate_callee (f := 11) rfl ?_); refine goesL_ (some 17) rfl rfl Tryd.func11 (by kernel_rfl) rfl #[.int .u64 t171] rfl (by (try simp only [List.map_toArray, List.map_cons, List.map_nil]); first | done | rfl | (simp only [List.length_drop, List.length_take]; rfl)) ?_; (with_reducible refine (bits_TrailingZeros64.calls t171 t173 _ (TabW.up HT.out (by repeat (first | (with_reducible first | exact HB.out | apply below_alloc | apply pw_below_drewN | apply below_drew1) | exact HB.out))) A6.out).mono ?_); rintro e w' ⟨rfl, ⟨nd, rfl⟩⟩; refine ⟨_, rfl, ?_⟩))
      go_ret
      exact ⟨by first | rfl | (simp [errW_none, errW_some] <;> rfl) | (simp [*, errW_none, errW_some] <;> rfl), by repeat (first | (with_reducible first | exact HB.out | apply below_alloc | apply pw_below_drewN | apply below_drew1) | exact HB.out)⟩
  · replace c3 := Bool.eq_false_iff.mpr c3
    subst c3
    have H1 : (some (-1)) = some r := by rw [if_neg (show ¬ (false = true) by decide)] at H; exact H
    clear H
    have H := H1
    clear H1
    obtain rfl := Option.some.inj H
    go_enter Tryd.func6, Tryd.ntmps6
    go_wp2_with (first | ((with_reducible refine gate_callee (f := 10) rfl ?_); refine goesL_ (some 7) rfl rfl Tryd.func10 (by kernel_rfl) rfl #[.slice A0 l0.length c0] rfl (by (try simp only [List.map_toArray, List.map_cons, List.map_nil]); first | done | rfl | (simp only [List.length_drop, List.length_take]; rfl)) ?_; (with_reducible refine (impl_rowsOf.calls k _ _ l0 t171 false _ ?side1 ?side2 A2.out).mono ?_); (case side1 => repeat (first | exact HR0.out | (with_reducible refine Kd.C_alloc ?_ _) | (with_reducible refine Kd.C_drewN ?_ _) | (with_reducible refine Kd.C_drew ?_))); (case side2 => exact HC0.out); rintro e w8 ⟨rfl, hb⟩; refine ⟨_, rfl, ?_⟩; have n0_ := Aside0.mk (below_step (by repeat (first | (with_reducible first | exact HB.out | apply below_alloc | apply pw_below_drewN | apply below_drew1) | exact HB.out)) hb); clear HB; have HB := n0_; clear n0_; (try clear hb); (try clear hb2); (try clear hk); (try clear hi)))
    go_ret
    exact ⟨by first | rfl | (simp [errW_none, errW_some] <;> rfl) | (simp [*, errW_none, errW_some] <;> rfl), by repeat (first | (with_reducible first | exact HB.out | apply below_alloc | apply pw_below_drewN | apply below_drew1) | exact HB.out)⟩

end Go.Proofs.YtbiieeldfnjogaaDoor.PFnExactFirstRow
