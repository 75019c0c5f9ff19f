-- Written by a program of this session (hooks of mine on the print): Lean checks it.
import Derived.Test.YtbiieeldfnjogaaPFnExactLettersInx0
import Derived.Test.YtbiieeldfnjogaaPFnExactLettersInx3
namespace Go.Proofs.Ytbiieeldfnjogaa.PFnExactLettersIn
open Go.RowKit Go.Proofs.YtbiieeldfnjogaaW.PrintWords Go.Proofs.YtbiieeldfnjogaaW.PrintLast Go.Proofs.YtbiieeldfnjogaaW.PrintMore
attribute [local go_sem] max2_int min2_int max_two min_two max_three min_three max_four min_four   -- for this text's walks alone
set_option linter.unusedVariables false
set_option linter.unusedSimpArgs false

/-! ### impl_rowsOf: function 46 -/
mutual
def impl_rowsOf.l0 : Nat → List Int → List Int → Int → Int → Option (Int × Bool)
  | 0, _, _, _, _ => none
  | k + 1, x4, x15, x16, x17 => if x17 < x16 then (if 0 ≤ x17 then (if x17 < (x15.length : Int) then ((impl_InRange.f (rd x15 x17) 0 5).bind fun t172 => (if t172 = true then ((impl_letterRows.f k (rd x15 x17)).bind fun t173 => (if x4.length < 17592186044416 then (impl_rowsOf.l0 k (x4 ++ [t173]) x15 x16 (wrap64 (x17 + 1))) else (none))) else (if (rd x15 x17) = (-1) then (impl_rowsOf.j1 k x4 (rd x15 x17) (x4.length : Int) x15 x16 x17 (decide ((x4.length : Int) ≥ 1))) else (impl_rowsOf.j1 k x4 (rd x15 x17) (x4.length : Int) x15 x16 x17 false)))) else (none)) else (none)) else (if 0 < (x4.length : Int) then (some (rd x4 0, ((x4.length : Int) == 1))) else (none))
def impl_rowsOf.j1 : Nat → List Int → Int → Int → List Int → Int → Int → Bool → Option (Int × Bool)
  | 0, _, _, _, _, _, _, _ => none
  | k + 1, x4, x6, x7, x15, x16, x17, x31 => if x31 = true then (if 0 ≤ (wrap64 (x7 - 1)) then (if (wrap64 (x7 - 1)) < (x4.length : Int) then (impl_rowsOf.l0 k (x4.set ((wrap64 (x7 - 1)) : Int).toNat (Go.bits .xor .u64 18446744073709551615 (rd x4 (wrap64 (x7 - 1))))) x15 x16 (wrap64 (x17 + 1))) else (none)) else (none)) else ((impl_InRange.f x6 (-4) (-2)).bind fun t179 => (if t179 = true then (impl_rowsOf.j2 k x4 x6 x7 x15 x16 x17 (decide (x7 ≥ 2))) else (impl_rowsOf.j2 k x4 x6 x7 x15 x16 x17 false)))
def impl_rowsOf.j2 : Nat → List Int → Int → Int → List Int → Int → Int → Bool → Option (Int × Bool)
  | 0, _, _, _, _, _, _, _ => none
  | k + 1, x4, x6, x7, x15, x16, x17, x48 => if x48 = true then (if 0 ≤ (wrap64 (x7 - 2)) then (if (wrap64 (x7 - 2)) < (x4.length : Int) then (if 0 ≤ (wrap64 (x7 - 1)) then (if (wrap64 (x7 - 1)) < (x4.length : Int) then (if (wrap64 (x7 - 1)) ≤ (x4.length : Int) then ((some (x4.take ((wrap64 (x7 - 1)) : Int).toNat : List Int)).bind fun y182 => (if x6 = (-2) then (if (wrap64 (x7 - 2)) < (y182.length : Int) then (impl_rowsOf.l0 k (y182.set ((wrap64 (x7 - 2)) : Int).toNat (Go.bits .and .u64 (rd x4 (wrap64 (x7 - 2))) (rd x4 (wrap64 (x7 - 1))))) x15 x16 (wrap64 (x17 + 1))) else (none)) else (if x6 = (-3) then (if (wrap64 (x7 - 2)) < (y182.length : Int) then (impl_rowsOf.l0 k (y182.set ((wrap64 (x7 - 2)) : Int).toNat (Go.bits .or .u64 (rd x4 (wrap64 (x7 - 2))) (rd x4 (wrap64 (x7 - 1))))) x15 x16 (wrap64 (x17 + 1))) else (none)) else (if (wrap64 (x7 - 2)) < (y182.length : Int) then (impl_rowsOf.l0 k (y182.set ((wrap64 (x7 - 2)) : Int).toNat (Go.bits .or .u64 (Go.bits .xor .u64 18446744073709551615 (rd x4 (wrap64 (x7 - 2)))) (rd x4 (wrap64 (x7 - 1))))) x15 x16 (wrap64 (x17 + 1))) else (none))))) else (none)) else (none)) else (none)) else (none)) else (none)) else (some (0, false))
end
def impl_rowsOf.f (k : Nat) (l0 : List Int) : Option (Int × Bool) := (impl_InRange.f (l0.length : Int) 1 24).bind fun t166 => (if t166 = true then (impl_rowsOf.l0 k (([] : List Int)) l0 (l0.length : Int) 0) else (some (0, false)))
theorem impl_rowsOf.mono_l : ∀ k, (∀ y0 y1 y2 y3, LeO (impl_rowsOf.l0 k y0 y1 y2 y3) (impl_rowsOf.l0 (k + 1) y0 y1 y2 y3)) ∧ (∀ y0 y1 y2 y3 y4 y5 y6, LeO (impl_rowsOf.j1 k y0 y1 y2 y3 y4 y5 y6) (impl_rowsOf.j1 (k + 1) y0 y1 y2 y3 y4 y5 y6)) ∧ (∀ y0 y1 y2 y3 y4 y5 y6, LeO (impl_rowsOf.j2 k y0 y1 y2 y3 y4 y5 y6) (impl_rowsOf.j2 (k + 1) y0 y1 y2 y3 y4 y5 y6))
  | 0 => ⟨fun _ _ _ _ r h => by simp [impl_rowsOf.l0] at h, fun _ _ _ _ _ _ _ r h => by simp [impl_rowsOf.j1] at h, fun _ _ _ _ _ _ _ r h => by simp [impl_rowsOf.j2] at h⟩
  | k + 1 => by
    obtain ⟨ih0, ih1, ih2⟩ := impl_rowsOf.mono_l k
    refine ⟨?_, ?_, ?_⟩
    · intro y0 y1 y2 y3
      unfold impl_rowsOf.l0
      repeat' first
      | (with_reducible exact ih0 _ _ _ _)
      | (with_reducible exact ih1 _ _ _ _ _ _ _)
      | (with_reducible exact ih2 _ _ _ _ _ _ _)
      | (with_reducible exact impl_letterRows.mono _ _)
      | (with_reducible exact LeO.refl _)
      | (with_reducible exact LeO.none _)
      | (with_reducible refine LeO.ite ?_ ?_)
      | (with_reducible refine LeO.bind ?_ (fun _ => ?_))
      | exact ih0 _ _ _ _
      | exact ih1 _ _ _ _ _ _ _
      | exact ih2 _ _ _ _ _ _ _
      | exact impl_letterRows.mono _ _
      | exact LeO.none _
      | refine LeO.ite ?_ ?_
      | refine LeO.bind ?_ (fun _ => ?_)
    · intro y0 y1 y2 y3 y4 y5 y6
      unfold impl_rowsOf.j1
      repeat' first
      | (with_reducible exact ih0 _ _ _ _)
      | (with_reducible exact ih1 _ _ _ _ _ _ _)
      | (with_reducible exact ih2 _ _ _ _ _ _ _)
      | (with_reducible exact impl_letterRows.mono _ _)
      | (with_reducible exact LeO.refl _)
      | (with_reducible exact LeO.none _)
      | (with_reducible refine LeO.ite ?_ ?_)
      | (with_reducible refine LeO.bind ?_ (fun _ => ?_))
      | exact ih0 _ _ _ _
      | exact ih1 _ _ _ _ _ _ _
      | exact ih2 _ _ _ _ _ _ _
      | exact impl_letterRows.mono _ _
      | exact LeO.none _
      | refine LeO.ite ?_ ?_
      | refine LeO.bind ?_ (fun _ => ?_)
    · intro y0 y1 y2 y3 y4 y5 y6
      unfold impl_rowsOf.j2
      repeat' first
      | (with_reducible exact ih0 _ _ _ _)
      | (with_reducible exact ih1 _ _ _ _ _ _ _)
      | (with_reducible exact ih2 _ _ _ _ _ _ _)
      | (with_reducible exact impl_letterRows.mono _ _)
      | (with_reducible exact LeO.refl _)
      | (with_reducible exact LeO.none _)
      | (with_reducible refine LeO.ite ?_ ?_)
      | (with_reducible refine LeO.bind ?_ (fun _ => ?_))
      | exact ih0 _ _ _ _
      | exact ih1 _ _ _ _ _ _ _
      | exact ih2 _ _ _ _ _ _ _
      | exact impl_letterRows.mono _ _
      | exact LeO.none _
      | refine LeO.ite ?_ ?_
      | refine LeO.bind ?_ (fun _ => ?_)
theorem impl_rowsOf.mono : ∀ a0 k, LeO (impl_rowsOf.f k a0) (impl_rowsOf.f (k + 1) a0) := by
  intro a0 k
  obtain ⟨ih0, ih1, ih2⟩ := impl_rowsOf.mono_l k
  unfold impl_rowsOf.f
  repeat' first
      | (with_reducible exact ih0 _ _ _ _)
      | (with_reducible exact ih1 _ _ _ _ _ _ _)
      | (with_reducible exact ih2 _ _ _ _ _ _ _)
      | (with_reducible exact impl_letterRows.mono _ _)
      | (with_reducible exact LeO.refl _)
      | (with_reducible exact LeO.none _)
      | (with_reducible refine LeO.ite ?_ ?_)
      | (with_reducible refine LeO.bind ?_ (fun _ => ?_))
      | exact ih0 _ _ _ _
      | exact ih1 _ _ _ _ _ _ _
      | exact ih2 _ _ _ _ _ _ _
      | exact impl_letterRows.mono _ _
      | exact LeO.none _
      | refine LeO.ite ?_ ?_
      | refine LeO.bind ?_ (fun _ => ?_)
set_option maxHeartbeats 8000000 in
set_option maxRecDepth 100000 in
theorem impl_rowsOf.calls (k : Nat) (A0 : Option Addr) (c0 : Nat) (l0 : List Int) (r1 : Int) (r2 : Bool) (w : World) (hr0 : Kd.C (Kd.int .i64) w A0 l0.length l0) (hc0 : l0.length ≤ c0) (h : impl_rowsOf.f k l0 = some (r1, r2)) :
    Calls Try.prog 46 #[.slice A0 l0.length c0] w fun e w' => e = .returned (.tuple #[.int .u64 r1, .bool r2]) ∧ Below w.heap.size w w' := by
  have HR0 := Aside0.mk hr0
  have HC0 := Aside0.mk hc0
  clear hr0 hc0
  have HB := Aside0.mk (Below.refl w.heap.size w)
  have H : ((impl_InRange.f (l0.length : Int) 1 24).bind fun t166 => (if t166 = true then (impl_rowsOf.l0 k (([] : List Int)) l0 (l0.length : Int) 0) else (some (0, false)))) = some (r1, r2) := h
  clear h
  replace H := Option.bind_eq_some_iff.mp H
  obtain ⟨t166, A20, H⟩ := H
  replace H : (if t166 = true then (impl_rowsOf.l0 k (([] : List Int)) l0 (l0.length : Int) 0) else (some (0, false))) = some (r1, r2) := H
  have A2 := Aside0.mk A20
  clear A20
  by_cases c3 : t166 = true
  · subst c3
    have H1 : (impl_rowsOf.l0 k (([] : List Int)) l0 (l0.length : Int) 0) = some (r1, r2) := by rw [if_pos rfl] at H; exact H
    clear H
    have H := H1
    clear H1
    obtain ⟨y167, hy167⟩ : ∃ y_ : List Int, y_ = (([] : List Int)) := ⟨_, rfl⟩
    replace H : (impl_rowsOf.l0 k y167 l0 (l0.length : Int) 0) = some (r1, r2) := by first | (rw [hy167]; with_reducible exact H) | (have H2_ := (Option.bind_some _ _).symm.trans H; rw [hy167]; with_reducible exact H2_) | (have H2_ := (Option.bind_some _ _).symm.trans H; with_reducible exact H2_) | with_reducible exact H | (rw [hy167]; exact H) | exact H
    have Ny167 := Aside0.mk hy167
    clear hy167
    have H' := Aside0.mk H
    clear H
    go_enter Try.func46, Try.ntmps46
    go_wp2_with (first | (go_at_call 50; (with_reducible refine (impl_InRange.calls (l0.length : Int) 1 24 true _ A2.out).mono ?_); rintro e w' ⟨rfl, ⟨nd, rfl⟩⟩; (try first | exact ⟨rfl, _, World.drewN_drewN _ _ _⟩ | exact ⟨rfl, _, Eq.trans (World.drewN_drewN _ _ _) (congrArg (World.drewN _) (Nat.add_assoc _ _ _))⟩)) | ((with_reducible refine gate_dst (N := 14) rfl ?_); refine Kd.R_lit (Kd.int .u64) _ 42 ?hg (N := 14) ?hd (xs := ([] : List Int)) (inner := []) (ok := fun _ => True) (okp := fun _ => True) ?hr ?hp (fun _ hk => hk) trivial (Below.refl _ _) (Nat.le_refl _) (by simp) ?_; (case hd => rfl); (case hg => rfl); (case hr => first | (go_simp; done) | (go_simp; rfl)); (case hp => exact (Reps.none _ _)); intro v168 w4 ho5 hb hg_ hnew_; clear hg_ hnew_; (first | rw [← Ny167.out] at ho5 | (simp only [Int.reduceToNat] at ho5; rw [← Ny167.out] at ho5)); have n0_ := Aside0.mk (Kd.R_lower ho5 (below_size (by repeat (first | (with_reducible first | exact HB.out | apply below_alloc | apply pw_below_drewN | apply below_drew1) | exact HB.out)))); have n1_ := Aside0.mk (below_step (by repeat (first | (with_reducible first | exact HB.out | apply below_alloc | apply pw_below_drewN | apply below_drew1) | exact HB.out)) hb); clear HB; have HO169 := n0_; have HB := n1_; clear n0_ n1_; clear hb ho5))
    repeat (go_quiet (first | (go_at_call 50; (with_reducible refine (impl_InRange.calls (l0.length : Int) 1 24 true _ A2.out).mono ?_); rintro e w' ⟨rfl, ⟨nd, rfl⟩⟩; (try first | exact ⟨rfl, _, World.drewN_drewN _ _ _⟩ | exact ⟨rfl, _, Eq.trans (World.drewN_drewN _ _ _) (congrArg (World.drewN _) (Nat.add_assoc _ _ _))⟩)) | ((with_reducible refine gate_dst (N := 14) rfl ?_); refine Kd.R_lit (Kd.int .u64) _ 42 ?hg (N := 14) ?hd (xs := ([] : List Int)) (inner := []) (ok := fun _ => True) (okp := fun _ => True) ?hr ?hp (fun _ hk => hk) trivial (Below.refl _ _) (Nat.le_refl _) (by simp) ?_; (case hd => rfl); (case hg => rfl); (case hr => first | (go_simp; done) | (go_simp; rfl)); (case hp => exact (Reps.none _ _)); intro v168 w4 ho5 hb hg_ hnew_; clear hg_ hnew_; (first | rw [← Ny167.out] at ho5 | (simp only [Int.reduceToNat] at ho5; rw [← Ny167.out] at ho5)); have n0_ := Aside0.mk (Kd.R_lower ho5 (below_size (by repeat (first | (with_reducible first | exact HB.out | apply below_alloc | apply pw_below_drewN | apply below_drew1) | exact HB.out)))); have n1_ := Aside0.mk (below_step (by repeat (first | (with_reducible first | exact HB.out | apply below_alloc | apply pw_below_drewN | apply below_drew1) | exact HB.out)) hb); clear HB; have HO169 := n0_; have HB := n1_; clear n0_ n1_; clear hb ho5)); try go_wp2_with (first | (go_at_call 50; (with_reducible refine (impl_InRange.calls (l0.length : Int) 1 24 true _ A2.out).mono ?_); rintro e w' ⟨rfl, ⟨nd, rfl⟩⟩; (try first | exact ⟨rfl, _, World.drewN_drewN _ _ _⟩ | exact ⟨rfl, _, Eq.trans (World.drewN_drewN _ _ _) (congrArg (World.drewN _) (Nat.add_assoc _ _ _))⟩)) | ((with_reducible refine gate_dst (N := 14) rfl ?_); refine Kd.R_lit (Kd.int .u64) _ 42 ?hg (N := 14) ?hd (xs := ([] : List Int)) (inner := []) (ok := fun _ => True) (okp := fun _ => True) ?hr ?hp (fun _ hk => hk) trivial (Below.refl _ _) (Nat.le_refl _) (by simp) ?_; (case hd => rfl); (case hg => rfl); (case hr => first | (go_simp; done) | (go_simp; rfl)); (case hp => exact (Reps.none _ _)); intro v168 w4 ho5 hb hg_ hnew_; clear hg_ hnew_; (first | rw [← Ny167.out] at ho5 | (simp only [Int.reduceToNat] at ho5; rw [← Ny167.out] at ho5)); have n0_ := Aside0.mk (Kd.R_lower ho5 (below_size (by repeat (first | (with_reducible first | exact HB.out | apply below_alloc | apply pw_below_drewN | apply below_drew1) | exact HB.out)))); have n1_ := Aside0.mk (below_step (by repeat (first | (with_reducible first | exact HB.out | apply below_alloc | apply pw_below_drewN | apply below_drew1) | exact HB.out)) hb); clear HB; have HO169 := n0_; have HB := n1_; clear n0_ n1_; clear hb ho5)))
    go_loopg [4, 17] k (fun kq v4 v17 w' => ∃ (x4_1 : List Int) (x17_1 : Int), v17 = .int .i64 x17_1 ∧ Aside0 (impl_rowsOf.l0 kq x4_1 l0 (l0.length : Int) x17_1 = some (r1, r2)) ∧ Aside0 (kq ≤ k) ∧ Aside0 (Kd.R (Kd.int .u64) 42 w' w.heap.size (fun _ => True) v4 x4_1) ∧ Aside0 (Below w.heap.size w w'))
    case atStart => exact ⟨(y167), (0), (by first | rfl | (simp; done) | (simp [*]; done)), H', ⟨Nat.le_refl _⟩, ⟨by (with_reducible repeat (first | apply Kd.R_alloc | apply Kd.R_drewN | apply Kd.R_drew)); exact HO169.out⟩, ⟨by repeat (first | (with_reducible first | exact HB.out | apply below_alloc | apply pw_below_drewN | apply below_drew1) | exact HB.out)⟩⟩
    case round =>
      clear H'
      try clear p2
      try clear c3
      try clear c4
      obtain ⟨x4_1, x17_1, rfl, HA, HK1, HO_4, HB⟩ := hrel
      cases gk with
      | zero => exact absurd HA.out (by simp [impl_rowsOf.l0])
      | succ k1 =>
        have H := HA.out
        clear HA
        simp only [impl_rowsOf.l0] at H
        by_cases c6 : x17_1 < (l0.length : Int)
        · rw [if_pos c6] at H
          have c6b0 : decide (x17_1 < (l0.length : Int)) = true := decide_eq_true c6
          clear c6
          by_cases c7 : 0 ≤ x17_1
          · rw [if_pos c7] at H
            have c7b0 : decide (0 ≤ x17_1) = true := decide_eq_true c7
            clear c7
            by_cases c8 : x17_1 < (l0.length : Int)
            · rw [if_pos c8] at H
              have c8b0 : decide (x17_1 < (l0.length : Int)) = true := decide_eq_true c8
              clear c8
              replace H := Option.bind_eq_some_iff.mp H
              obtain ⟨t172, A90, H⟩ := H
              replace H : (if t172 = true then ((impl_letterRows.f k1 (rd l0 x17_1)).bind fun t173 => (if x4_1.length < 17592186044416 then (impl_rowsOf.l0 k1 (x4_1 ++ [t173]) l0 (l0.length : Int) (wrap64 (x17_1 + 1))) else (none))) else (if (rd l0 x17_1) = (-1) then (impl_rowsOf.j1 k1 x4_1 (rd l0 x17_1) (x4_1.length : Int) l0 (l0.length : Int) x17_1 (decide ((x4_1.length : Int) ≥ 1))) else (impl_rowsOf.j1 k1 x4_1 (rd l0 x17_1) (x4_1.length : Int) l0 (l0.length : Int) x17_1 false))) = some (r1, r2) := H
              have A9 := Aside0.mk A90
              clear A90
              by_cases c10 : t172 = true
              · subst c10
                have H1 : ((impl_letterRows.f k1 (rd l0 x17_1)).bind fun t173 => (if x4_1.length < 17592186044416 then (impl_rowsOf.l0 k1 (x4_1 ++ [t173]) l0 (l0.length : Int) (wrap64 (x17_1 + 1))) else (none))) = some (r1, r2) := by rw [if_pos rfl] at H; exact H
                clear H
                have H := H1
                clear H1
                replace H := Option.bind_eq_some_iff.mp H
                obtain ⟨t173, A110, H⟩ := H
                replace H : (if x4_1.length < 17592186044416 then (impl_rowsOf.l0 k1 (x4_1 ++ [t173]) l0 (l0.length : Int) (wrap64 (x17_1 + 1))) else (none)) = some (r1, r2) := H
                have A11 := Aside0.mk A110
                clear A110
                by_cases c12 : x4_1.length < 17592186044416
                · rw [if_pos c12] at H
                  have LMc12 := Aside0.mk c12
                  clear c12
                  obtain ⟨y174, hy174⟩ : ∃ y_ : List Int, y_ = (x4_1 ++ [t173]) := ⟨_, rfl⟩
                  replace H : (impl_rowsOf.l0 k1 y174 l0 (l0.length : Int) (wrap64 (x17_1 + 1))) = some (r1, r2) := by first | (rw [hy174]; with_reducible exact H) | (have H2_ := (Option.bind_some _ _).symm.trans H; rw [hy174]; with_reducible exact H2_) | (have H2_ := (Option.bind_some _ _).symm.trans H; with_reducible exact H2_) | with_reducible exact H | (rw [hy174]; exact H) | exact H
                  have Ny174 := Aside0.mk hy174
                  clear hy174
                  have H' := Aside0.mk H
                  clear H
                  have p171 : 0 ≤ (x17_1 : Int) := of_decide_eq_true (by first | (with_reducible assumption) | assumption)
                  have q171 : x17_1 < (l0.length : Int) := of_decide_eq_true (by first | (with_reducible assumption) | assumption)
                  obtain ⟨ad171, e171, hx171_0⟩ := Kd.at_int HR0.out x17_1 p171 q171
                  cases e171
                  replace hx171_0 := (HB.out.cell (World.block_lt_of_cell? w _ hx171_0)).trans hx171_0
                  replace p171 := eq_true p171
                  replace q171 := eq_true q171
                  obtain ⟨Ao13, co13, eo13⟩ := Kd.R_slice HO_4.out
                  subst eo13
                  go_wp2_with (first | (go_at_call 50; (with_reducible refine (impl_InRange.calls (rd l0 x17_1) 0 5 true _ A9.out).mono ?_); rintro e w' ⟨rfl, ⟨nd, rfl⟩⟩; (try first | exact ⟨rfl, _, World.drewN_drewN _ _ _⟩ | exact ⟨rfl, _, Eq.trans (World.drewN_drewN _ _ _) (congrArg (World.drewN _) (Nat.add_assoc _ _ _))⟩)) | (go_at_call 59; (with_reducible refine (impl_letterRows.calls k1 (rd l0 x17_1) t173 _ A11.out).mono ?_); rintro e w' ⟨rfl, ⟨nd, rfl⟩⟩; (try first | exact ⟨rfl, _, World.drewN_drewN _ _ _⟩ | exact ⟨rfl, _, Eq.trans (World.drewN_drewN _ _ _) (congrArg (World.drewN _) (Nat.add_assoc _ _ _))⟩)) | ((with_reducible refine gate_builtin (b := .append) (xs := #[.tmp 26, .tmp 29]) rfl ?_); at_builtin; refine Kd.R_append (Kd.int .u64) (w0 := w) w.heap.size rfl (.tmp 26) (.tmp 29) 54 42 (.int .u64 0) 8 rfl Try.underlying54 info42 rfl (by decide) (by omega) (.slice Ao13 x4_1.length co13) x4_1 t173 [.int .u64 t173] (fun _ => True) (fun _ => False) rfl rfl ?aP (fun _ hk => hk.elim) ?aF ?aO ?aB ?aS ?aL ?_; (case aP => exact rfl); (case aB => exact (by repeat (first | (with_reducible first | exact HB.out | apply below_alloc | apply pw_below_drewN | apply below_drew1) | exact HB.out))); (case aF => exact (fun _ _ => trivial)); (case aO => exact (by (with_reducible repeat (first | apply Kd.R_alloc | apply Kd.R_drewN | apply Kd.R_drew)); exact HO_4.out)); (case aS => exact (below_size (by repeat (first | (with_reducible first | exact HB.out | apply below_alloc | apply pw_below_drewN | apply below_drew1) | exact HB.out)))); (case aL => have := LMc12.out; omega); intro v175 w14 ho hb hg hat; rw [← Ny174.out] at ho; have n0_ := Aside0.mk (hb); have n1_ := Aside0.mk (ho); clear HB; clear HO_4; have HB := n0_; have HO176 := n1_; clear n0_ n1_; clear ho hb hg hat))
                  repeat (go_quiet (first | (go_at_call 50; (with_reducible refine (impl_InRange.calls (rd l0 x17_1) 0 5 true _ A9.out).mono ?_); rintro e w' ⟨rfl, ⟨nd, rfl⟩⟩; (try first | exact ⟨rfl, _, World.drewN_drewN _ _ _⟩ | exact ⟨rfl, _, Eq.trans (World.drewN_drewN _ _ _) (congrArg (World.drewN _) (Nat.add_assoc _ _ _))⟩)) | (go_at_call 59; (with_reducible refine (impl_letterRows.calls k1 (rd l0 x17_1) t173 _ A11.out).mono ?_); rintro e w' ⟨rfl, ⟨nd, rfl⟩⟩; (try first | exact ⟨rfl, _, World.drewN_drewN _ _ _⟩ | exact ⟨rfl, _, Eq.trans (World.drewN_drewN _ _ _) (congrArg (World.drewN _) (Nat.add_assoc _ _ _))⟩)) | ((with_reducible refine gate_builtin (b := .append) (xs := #[.tmp 26, .tmp 29]) rfl ?_); at_builtin; refine Kd.R_append (Kd.int .u64) (w0 := w) w.heap.size rfl (.tmp 26) (.tmp 29) 54 42 (.int .u64 0) 8 rfl Try.underlying54 info42 rfl (by decide) (by omega) (.slice Ao13 x4_1.length co13) x4_1 t173 [.int .u64 t173] (fun _ => True) (fun _ => False) rfl rfl ?aP (fun _ hk => hk.elim) ?aF ?aO ?aB ?aS ?aL ?_; (case aP => exact rfl); (case aB => exact (by repeat (first | (with_reducible first | exact HB.out | apply below_alloc | apply pw_below_drewN | apply below_drew1) | exact HB.out))); (case aF => exact (fun _ _ => trivial)); (case aO => exact (by (with_reducible repeat (first | apply Kd.R_alloc | apply Kd.R_drewN | apply Kd.R_drew)); exact HO_4.out)); (case aS => exact (below_size (by repeat (first | (with_reducible first | exact HB.out | apply below_alloc | apply pw_below_drewN | apply below_drew1) | exact HB.out)))); (case aL => have := LMc12.out; omega); intro v175 w14 ho hb hg hat; rw [← Ny174.out] at ho; have n0_ := Aside0.mk (hb); have n1_ := Aside0.mk (ho); clear HB; clear HO_4; have HB := n0_; have HO176 := n1_; clear n0_ n1_; clear ho hb hg hat)); try go_wp2_with (first | (go_at_call 50; (with_reducible refine (impl_InRange.calls (rd l0 x17_1) 0 5 true _ A9.out).mono ?_); rintro e w' ⟨rfl, ⟨nd, rfl⟩⟩; (try first | exact ⟨rfl, _, World.drewN_drewN _ _ _⟩ | exact ⟨rfl, _, Eq.trans (World.drewN_drewN _ _ _) (congrArg (World.drewN _) (Nat.add_assoc _ _ _))⟩)) | (go_at_call 59; (with_reducible refine (impl_letterRows.calls k1 (rd l0 x17_1) t173 _ A11.out).mono ?_); rintro e w' ⟨rfl, ⟨nd, rfl⟩⟩; (try first | exact ⟨rfl, _, World.drewN_drewN _ _ _⟩ | exact ⟨rfl, _, Eq.trans (World.drewN_drewN _ _ _) (congrArg (World.drewN _) (Nat.add_assoc _ _ _))⟩)) | ((with_reducible refine gate_builtin (b := .append) (xs := #[.tmp 26, .tmp 29]) rfl ?_); at_builtin; refine Kd.R_append (Kd.int .u64) (w0 := w) w.heap.size rfl (.tmp 26) (.tmp 29) 54 42 (.int .u64 0) 8 rfl Try.underlying54 info42 rfl (by decide) (by omega) (.slice Ao13 x4_1.length co13) x4_1 t173 [.int .u64 t173] (fun _ => True) (fun _ => False) rfl rfl ?aP (fun _ hk => hk.elim) ?aF ?aO ?aB ?aS ?aL ?_; (case aP => exact rfl); (case aB => exact (by repeat (first | (with_reducible first | exact HB.out | apply below_alloc | apply pw_below_drewN | apply below_drew1) | exact HB.out))); (case aF => exact (fun _ _ => trivial)); (case aO => exact (by (with_reducible repeat (first | apply Kd.R_alloc | apply Kd.R_drewN | apply Kd.R_drew)); exact HO_4.out)); (case aS => exact (below_size (by repeat (first | (with_reducible first | exact HB.out | apply below_alloc | apply pw_below_drewN | apply below_drew1) | exact HB.out)))); (case aL => have := LMc12.out; omega); intro v175 w14 ho hb hg hat; rw [← Ny174.out] at ho; have n0_ := Aside0.mk (hb); have n1_ := Aside0.mk (ho); clear HB; clear HO_4; have HB := n0_; have HO176 := n1_; clear n0_ n1_; clear ho hb hg hat)))
                  go_roundg k1
                  case measure => have := HK1.out; omega
                  case rel => exact ⟨(y174), (wrap64 (x17_1 + 1)), (by first | rfl | (simp; done) | (simp [*]; done)), H', ⟨by have := HK1.out; omega⟩, ⟨by (with_reducible repeat (first | apply Kd.R_alloc | apply Kd.R_drewN | apply Kd.R_drew)); exact HO176.out⟩, ⟨by repeat (first | (with_reducible first | exact HB.out | apply below_alloc | apply pw_below_drewN | apply below_drew1) | exact HB.out)⟩⟩
                · rw [if_neg c12] at H
                  exact absurd H (by simp)
              · replace c10 := Bool.eq_false_iff.mpr c10
                subst c10
                have H1 : (if (rd l0 x17_1) = (-1) then (impl_rowsOf.j1 k1 x4_1 (rd l0 x17_1) (x4_1.length : Int) l0 (l0.length : Int) x17_1 (decide ((x4_1.length : Int) ≥ 1))) else (impl_rowsOf.j1 k1 x4_1 (rd l0 x17_1) (x4_1.length : Int) l0 (l0.length : Int) x17_1 false)) = some (r1, r2) := by rw [if_neg (show ¬ (false = true) by decide)] at H; exact H
                clear H
                have H := H1
                clear H1
                have HC15 := Aside0.mk H
                clear H
                have p171 : 0 ≤ (x17_1 : Int) := of_decide_eq_true (by first | (with_reducible assumption) | assumption)
                have q171 : x17_1 < (l0.length : Int) := of_decide_eq_true (by first | (with_reducible assumption) | assumption)
                obtain ⟨ad171, e171, hx171_0⟩ := Kd.at_int HR0.out x17_1 p171 q171
                cases e171
                replace hx171_0 := (HB.out.cell (World.block_lt_of_cell? w _ hx171_0)).trans hx171_0
                replace p171 := eq_true p171
                replace q171 := eq_true q171
                obtain ⟨Ao16, co16, eo16⟩ := Kd.R_slice HO_4.out
                subst eo16
                go_upto_region 11 with (first | (go_at_call 50; (with_reducible refine (impl_InRange.calls (rd l0 x17_1) 0 5 false _ A9.out).mono ?_); rintro e w' ⟨rfl, ⟨nd, rfl⟩⟩; (try first | exact ⟨rfl, _, World.drewN_drewN _ _ _⟩ | exact ⟨rfl, _, Eq.trans (World.drewN_drewN _ _ _) (congrArg (World.drewN _) (Nat.add_assoc _ _ _))⟩)))
                repeat (go_quiet (first | (go_at_call 50; (with_reducible refine (impl_InRange.calls (rd l0 x17_1) 0 5 false _ A9.out).mono ?_); rintro e w' ⟨rfl, ⟨nd, rfl⟩⟩; (try first | exact ⟨rfl, _, World.drewN_drewN _ _ _⟩ | exact ⟨rfl, _, Eq.trans (World.drewN_drewN _ _ _) (congrArg (World.drewN _) (Nat.add_assoc _ _ _))⟩))); go_upto_region 11 with (first | (go_at_call 50; (with_reducible refine (impl_InRange.calls (rd l0 x17_1) 0 5 false _ A9.out).mono ?_); rintro e w' ⟨rfl, ⟨nd, rfl⟩⟩; (try first | exact ⟨rfl, _, World.drewN_drewN _ _ _⟩ | exact ⟨rfl, _, Eq.trans (World.drewN_drewN _ _ _) (congrArg (World.drewN _) (Nat.add_assoc _ _ _))⟩))))
                (try simp only [Act.put, List.setIfInBounds_toArray, List.set_cons_zero, List.set_cons_succ])
                go_cut [31] (fun v31 wc => ∃ (kq : Nat) (x31_14 : Bool), v31 = .bool x31_14 ∧ Aside0 (impl_rowsOf.j1 kq x4_1 (rd l0 x17_1) (x4_1.length : Int) l0 (l0.length : Int) x17_1 x31_14 = some (r1, r2)) ∧ Aside0 (kq ≤ k1) ∧ Aside0 (Kd.R (Kd.int .u64) 42 wc w.heap.size (fun _ => True) (.slice Ao16 x4_1.length co16) x4_1) ∧ Aside0 (Below w.heap.size w wc))
                case first =>
                  have H := HC15.out
                  clear HC15
                  by_cases c17 : (rd l0 x17_1) = (-1)
                  · rw [if_pos c17] at H
                    have c17b0 : ((rd l0 x17_1) == (-1)) = true := beq_iff_eq.mpr c17
                    have c17b1 : ((rd l0 x17_1) != (-1)) = false := bne_eq_false_iff_eq.mpr c17
                    clear c17
                    (first | rw [c17b0] | (simp only [i64_w, i32_w]; rw [c17b0]) | skip)
                    have H' := Aside0.mk H
                    clear H
                    go_wp2
                    repeat (go_quiet (fail); try go_wp2)
                    go_meet
                    case rel => exact ⟨_, (decide ((x4_1.length : Int) ≥ 1)), (by first | rfl | (simp; done) | (simp [*]; done)), H', ⟨by have := HK1.out; first | omega | exact Nat.le_refl _⟩, ⟨by (with_reducible repeat (first | apply Kd.R_alloc | apply Kd.R_drewN | apply Kd.R_drew)); exact HO_4.out⟩, ⟨by repeat (first | (with_reducible first | exact HB.out | apply below_alloc | apply pw_below_drewN | apply below_drew1) | exact HB.out)⟩⟩
                  · rw [if_neg c17] at H
                    have c17b0 : ((rd l0 x17_1) == (-1)) = false := beq_eq_false_iff_ne.mpr c17
                    have c17b1 : ((rd l0 x17_1) != (-1)) = true := bne_iff_ne.mpr c17
                    (first | rw [c17b0] | (simp only [i64_w, i32_w]; rw [c17b0]) | skip)
                    have H' := Aside0.mk H
                    clear H
                    go_wp2
                    repeat (go_quiet (fail); try go_wp2)
                    go_meet
                    case rel => exact ⟨_, (false), (by first | rfl | (simp; done) | (simp [*]; done)), H', ⟨by have := HK1.out; first | omega | exact Nat.le_refl _⟩, ⟨by (with_reducible repeat (first | apply Kd.R_alloc | apply Kd.R_drewN | apply Kd.R_drew)); exact HO_4.out⟩, ⟨by repeat (first | (with_reducible first | exact HB.out | apply below_alloc | apply pw_below_drewN | apply below_drew1) | exact HB.out)⟩⟩
                case rest =>
                  clear HC15
                  try clear c1
                  try clear p1
                  try clear q1
                  try clear hx1
                  try clear p2
                  try clear c3
                  try clear c4
                  try clear c6
                  try clear c6b0
                  try clear p6
                  try clear c7
                  try clear c7b0
                  try clear c8
                  try clear c8b0
                  try clear c10
                  try clear c12
                  try clear c17
                  try clear c17b0
                  try clear c17b1
                  try clear p17
                  try clear q17
                  try clear hx17
                  try clear hx171_0
                  try clear p171
                  try clear p2
                  try clear q171
                  obtain ⟨kq, x31_14, rfl, HA, HJ14, HO_4, HB⟩ := hcut
                  cases kq with
                  | zero => exact absurd HA.out (by simp [impl_rowsOf.j1])
                  | succ kj14 =>
                    have H := HA.out
                    clear HA
                    simp only [impl_rowsOf.j1] at H
                    by_cases c18 : x31_14 = true
                    · subst c18
                      have H1 : (if 0 ≤ (wrap64 ((x4_1.length : Int) - 1)) then (if (wrap64 ((x4_1.length : Int) - 1)) < (x4_1.length : Int) then (impl_rowsOf.l0 kj14 (x4_1.set ((wrap64 ((x4_1.length : Int) - 1)) : Int).toNat (Go.bits .xor .u64 18446744073709551615 (rd x4_1 (wrap64 ((x4_1.length : Int) - 1))))) l0 (l0.length : Int) (wrap64 (x17_1 + 1))) else (none)) else (none)) = some (r1, r2) := by rw [if_pos rfl] at H; exact H
                      clear H
                      have H := H1
                      clear H1
                      obtain ⟨ji19, hji19⟩ : ∃ j_ : Int, (wrap64 ((x4_1.length : Int) - 1)) = j_ := ⟨_, rfl⟩
                      replace H : (if 0 ≤ (ji19) then (if (ji19) < (x4_1.length : Int) then (impl_rowsOf.l0 kj14 (x4_1.set ((ji19) : Int).toNat (Go.bits .xor .u64 18446744073709551615 (rd x4_1 (ji19)))) l0 (l0.length : Int) (wrap64 (x17_1 + 1))) else (none)) else (none)) = some (r1, r2) := by first | (rw [hji19] at H; exact H) | (simp only [hji19] at H ⊢; exact H)
                      have hji19w : (IntKind.i64.wrap ((x4_1.length : Int) - 1)) = ji19 := (i64_w _).trans hji19
                      by_cases c20 : 0 ≤ (ji19)
                      · rw [if_pos c20] at H
                        have c20b0 : decide (0 ≤ (ji19)) = true := decide_eq_true c20
                        clear c20
                        by_cases c21 : (ji19) < (x4_1.length : Int)
                        · rw [if_pos c21] at H
                          have c21b0 : decide ((ji19) < (x4_1.length : Int)) = true := decide_eq_true c21
                          clear c21
                          obtain ⟨y178, hy178⟩ : ∃ y_ : List Int, y_ = (x4_1.set ((ji19) : Int).toNat (Go.bits .xor .u64 18446744073709551615 (rd x4_1 (ji19)))) := ⟨_, rfl⟩
                          replace H : (impl_rowsOf.l0 kj14 y178 l0 (l0.length : Int) (wrap64 (x17_1 + 1))) = some (r1, r2) := by first | (rw [hy178]; with_reducible exact H) | (have H2_ := (Option.bind_some _ _).symm.trans H; rw [hy178]; with_reducible exact H2_) | (have H2_ := (Option.bind_some _ _).symm.trans H; with_reducible exact H2_) | with_reducible exact H | (rw [hy178]; exact H) | exact H
                          have Ny178 := Aside0.mk hy178
                          clear hy178
                          have H' := Aside0.mk H
                          clear H
                          have p177 : 0 ≤ ((ji19) : Int) := of_decide_eq_true (by first | (with_reducible assumption) | assumption)
                          have q177 : (ji19) < (x4_1.length : Int) := of_decide_eq_true (by first | (with_reducible assumption) | assumption)
                          obtain ⟨ad177, e177, hx177_0⟩ := Kd.at_int (Kd.R_reads' HO_4.out).2.2 (ji19) p177 q177
                          cases e177
                          replace p177 := eq_true p177
                          replace q177 := eq_true q177
                          have p22 : 0 ≤ ((ji19) : Int) := of_decide_eq_true (by first | (with_reducible assumption) | assumption)
                          have q22 : ((ji19) : Int) < ((x4_1.length : Int) : Int) := of_decide_eq_true (by first | (with_reducible assumption) | assumption)
                          obtain ⟨go22, co22, eo22, gb22, gl22, cl22, HG22⟩ := Kd.R_form HO_4.out (by omega)
                          (first | cases eo22 | (injection eo22 with ea_ en_ ec_; (first | subst ea_ | (injection ea_ with ea_; subst ea_)); subst ec_; clear en_))
                          have GB22 := Aside0.mk gb22
                          have GG22 := Aside0.mk HG22
                          clear gb22 gl22 HG22
                          (first | simp only [add_plain] at hx177_0 | skip)
                          obtain ⟨hx22_0, hf22_0⟩ := Kd.R_celln 0 HO_4.out ((ji19) : Int) p22 q22
                          replace p22 := eq_true p22
                          replace q22 := eq_true q22
                          have HP23 := Kd.R_putg HO_4.out ((ji19) : Int) (Go.bits .xor .u64 18446744073709551615 (rd x4_1 (ji19)))
                          go_wp2_with (first | ((with_reducible refine gate_store (t := 42) (p := 47) rfl ?_); (try (rw [drewN_self wc]; generalize hq_ : World.drewN wc _ = wc; have n0_ := Aside0.mk (Kd.R_at hq_ HO_4.out); have n1_ := Aside0.mk (below_at hq_ HB.out); clear hq_ HO_4 HB; have HO_4 := n0_; have HB := n1_; clear n0_ n1_; (try (have HP23 := Kd.R_putg HO_4.out ((ji19) : Int) (Go.bits .xor .u64 18446744073709551615 (rd x4_1 (ji19))))); (try (obtain ⟨hx22_0, hf22_0⟩ := Kd.R_celln 0 HO_4.out ((ji19) : Int) (of_eq_true p22) (of_eq_true q22))))); refine store_event (t := 42) (p := 47) (v := ?vo_w24) (w1 := (wc.setCell ⟨go22, ((ji19) : Int).toNat, none⟩ (.int .u64 (Go.bits .xor .u64 18446744073709551615 (rd x4_1 (ji19)))))) ?hg ?ho ?hn ?hr ?_; (case ho => rfl); (case hg => rfl); (case hn => rfl); (case hr => first | (go_simp; done) | (go_simp; rfl)); intro w24 hw; have hg : wc.grownBy w24 (some go22) := (by rw [hw]; exact HP23.2); have hp_ : Kd.R (Kd.int .u64) 42 w24 w.heap.size (fun _ => True) (.slice (some ⟨go22, 0, none⟩) x4_1.length co16) y178 := (by rw [hw, Ny178.out]; exact HP23.1); clear HP23; have n0_ := Aside0.mk (hp_); have n1_ := Aside0.mk ((by rw [hw]; exact below_set (HB.out) GB22.out : Below w.heap.size w w24)); clear HO_4; clear HB; have HO_4 := n0_; have HB := n1_; clear n0_ n1_; clear hg hw hp_))
                          repeat (go_quiet (first | ((with_reducible refine gate_store (t := 42) (p := 47) rfl ?_); (try (rw [drewN_self wc]; generalize hq_ : World.drewN wc _ = wc; have n0_ := Aside0.mk (Kd.R_at hq_ HO_4.out); have n1_ := Aside0.mk (below_at hq_ HB.out); clear hq_ HO_4 HB; have HO_4 := n0_; have HB := n1_; clear n0_ n1_; (try (have HP23 := Kd.R_putg HO_4.out ((ji19) : Int) (Go.bits .xor .u64 18446744073709551615 (rd x4_1 (ji19))))); (try (obtain ⟨hx22_0, hf22_0⟩ := Kd.R_celln 0 HO_4.out ((ji19) : Int) (of_eq_true p22) (of_eq_true q22))))); refine store_event (t := 42) (p := 47) (v := ?vo_w24) (w1 := (wc.setCell ⟨go22, ((ji19) : Int).toNat, none⟩ (.int .u64 (Go.bits .xor .u64 18446744073709551615 (rd x4_1 (ji19)))))) ?hg ?ho ?hn ?hr ?_; (case ho => rfl); (case hg => rfl); (case hn => rfl); (case hr => first | (go_simp; done) | (go_simp; rfl)); intro w24 hw; have hg : wc.grownBy w24 (some go22) := (by rw [hw]; exact HP23.2); have hp_ : Kd.R (Kd.int .u64) 42 w24 w.heap.size (fun _ => True) (.slice (some ⟨go22, 0, none⟩) x4_1.length co16) y178 := (by rw [hw, Ny178.out]; exact HP23.1); clear HP23; have n0_ := Aside0.mk (hp_); have n1_ := Aside0.mk ((by rw [hw]; exact below_set (HB.out) GB22.out : Below w.heap.size w w24)); clear HO_4; clear HB; have HO_4 := n0_; have HB := n1_; clear n0_ n1_; clear hg hw hp_)); try go_wp2_with (first | ((with_reducible refine gate_store (t := 42) (p := 47) rfl ?_); (try (rw [drewN_self wc]; generalize hq_ : World.drewN wc _ = wc; have n0_ := Aside0.mk (Kd.R_at hq_ HO_4.out); have n1_ := Aside0.mk (below_at hq_ HB.out); clear hq_ HO_4 HB; have HO_4 := n0_; have HB := n1_; clear n0_ n1_; (try (have HP23 := Kd.R_putg HO_4.out ((ji19) : Int) (Go.bits .xor .u64 18446744073709551615 (rd x4_1 (ji19))))); (try (obtain ⟨hx22_0, hf22_0⟩ := Kd.R_celln 0 HO_4.out ((ji19) : Int) (of_eq_true p22) (of_eq_true q22))))); refine store_event (t := 42) (p := 47) (v := ?vo_w24) (w1 := (wc.setCell ⟨go22, ((ji19) : Int).toNat, none⟩ (.int .u64 (Go.bits .xor .u64 18446744073709551615 (rd x4_1 (ji19)))))) ?hg ?ho ?hn ?hr ?_; (case ho => rfl); (case hg => rfl); (case hn => rfl); (case hr => first | (go_simp; done) | (go_simp; rfl)); intro w24 hw; have hg : wc.grownBy w24 (some go22) := (by rw [hw]; exact HP23.2); have hp_ : Kd.R (Kd.int .u64) 42 w24 w.heap.size (fun _ => True) (.slice (some ⟨go22, 0, none⟩) x4_1.length co16) y178 := (by rw [hw, Ny178.out]; exact HP23.1); clear HP23; have n0_ := Aside0.mk (hp_); have n1_ := Aside0.mk ((by rw [hw]; exact below_set (HB.out) GB22.out : Below w.heap.size w w24)); clear HO_4; clear HB; have HO_4 := n0_; have HB := n1_; clear n0_ n1_; clear hg hw hp_)))
                          go_roundg kj14
                          case measure => have := HK1.out; have := HJ14.out; omega
                          case rel => exact ⟨(y178), (wrap64 (x17_1 + 1)), (by first | rfl | (simp; done) | (simp [*]; done)), H', ⟨by have := HK1.out; have := HJ14.out; omega⟩, ⟨by (with_reducible repeat (first | apply Kd.R_alloc | apply Kd.R_drewN | apply Kd.R_drew)); exact HO_4.out⟩, ⟨by repeat (first | (with_reducible first | exact HB.out | apply below_alloc | apply pw_below_drewN | apply below_drew1) | exact HB.out)⟩⟩
                        · rw [if_neg c21] at H
                          exact absurd H (by simp)
                      · rw [if_neg c20] at H
                        exact absurd H (by simp)
                    · replace c18 := Bool.eq_false_iff.mpr c18
                      subst c18
                      have H1 : ((impl_InRange.f (rd l0 x17_1) (-4) (-2)).bind fun t179 => (if t179 = true then (impl_rowsOf.j2 kj14 x4_1 (rd l0 x17_1) (x4_1.length : Int) l0 (l0.length : Int) x17_1 (decide ((x4_1.length : Int) ≥ 2))) else (impl_rowsOf.j2 kj14 x4_1 (rd l0 x17_1) (x4_1.length : Int) l0 (l0.length : Int) x17_1 false))) = some (r1, r2) := by rw [if_neg (show ¬ (false = true) by decide)] at H; exact H
                      clear H
                      have H := H1
                      clear H1
                      have HC25 := Aside0.mk H
                      clear H
                      go_upto_region 13 with (fail)
                      repeat (go_quiet (fail); go_upto_region 13 with (fail))
                      go_cut [48] (fun v48 wc => ∃ (kq : Nat) (x48_24 : Bool), v48 = .bool x48_24 ∧ Aside0 (impl_rowsOf.j2 kq x4_1 (rd l0 x17_1) (x4_1.length : Int) l0 (l0.length : Int) x17_1 x48_24 = some (r1, r2)) ∧ Aside0 (kq ≤ kj14) ∧ Aside0 (Kd.R (Kd.int .u64) 42 wc w.heap.size (fun _ => True) (.slice Ao16 x4_1.length co16) x4_1) ∧ Aside0 (Below w.heap.size w wc))
                      case first =>
                        have H := HC25.out
                        clear HC25
                        replace H := Option.bind_eq_some_iff.mp H
                        obtain ⟨t179, A260, H⟩ := H
                        replace H : (if t179 = true then (impl_rowsOf.j2 kj14 x4_1 (rd l0 x17_1) (x4_1.length : Int) l0 (l0.length : Int) x17_1 (decide ((x4_1.length : Int) ≥ 2))) else (impl_rowsOf.j2 kj14 x4_1 (rd l0 x17_1) (x4_1.length : Int) l0 (l0.length : Int) x17_1 false)) = some (r1, r2) := H
                        have A26 := Aside0.mk A260
                        clear A260
                        by_cases c27 : t179 = true
                        · subst c27
                          have H1 : (impl_rowsOf.j2 kj14 x4_1 (rd l0 x17_1) (x4_1.length : Int) l0 (l0.length : Int) x17_1 (decide ((x4_1.length : Int) ≥ 2))) = some (r1, r2) := by rw [if_pos rfl] at H; exact H
                          clear H
                          have H := H1
                          clear H1
                          have H' := Aside0.mk H
                          clear H
                          go_wp2_with (first | (go_at_call 50; (with_reducible refine (impl_InRange.calls (rd l0 x17_1) (-4) (-2) true _ A26.out).mono ?_); rintro e w' ⟨rfl, ⟨nd, rfl⟩⟩; (try first | exact ⟨rfl, _, World.drewN_drewN _ _ _⟩ | exact ⟨rfl, _, Eq.trans (World.drewN_drewN _ _ _) (congrArg (World.drewN _) (Nat.add_assoc _ _ _))⟩)))
                          repeat (go_quiet (first | (go_at_call 50; (with_reducible refine (impl_InRange.calls (rd l0 x17_1) (-4) (-2) true _ A26.out).mono ?_); rintro e w' ⟨rfl, ⟨nd, rfl⟩⟩; (try first | exact ⟨rfl, _, World.drewN_drewN _ _ _⟩ | exact ⟨rfl, _, Eq.trans (World.drewN_drewN _ _ _) (congrArg (World.drewN _) (Nat.add_assoc _ _ _))⟩))); try go_wp2_with (first | (go_at_call 50; (with_reducible refine (impl_InRange.calls (rd l0 x17_1) (-4) (-2) true _ A26.out).mono ?_); rintro e w' ⟨rfl, ⟨nd, rfl⟩⟩; (try first | exact ⟨rfl, _, World.drewN_drewN _ _ _⟩ | exact ⟨rfl, _, Eq.trans (World.drewN_drewN _ _ _) (congrArg (World.drewN _) (Nat.add_assoc _ _ _))⟩))))
                          go_meet
                          case rel => exact ⟨_, (decide ((x4_1.length : Int) ≥ 2)), (by first | rfl | (simp; done) | (simp [*]; done)), H', ⟨by have := HK1.out; have := HJ14.out; first | omega | exact Nat.le_refl _⟩, ⟨by (with_reducible repeat (first | apply Kd.R_alloc | apply Kd.R_drewN | apply Kd.R_drew)); exact HO_4.out⟩, ⟨by repeat (first | (with_reducible first | exact HB.out | apply below_alloc | apply pw_below_drewN | apply below_drew1) | exact HB.out)⟩⟩
                        · replace c27 := Bool.eq_false_iff.mpr c27
                          subst c27
                          have H1 : (impl_rowsOf.j2 kj14 x4_1 (rd l0 x17_1) (x4_1.length : Int) l0 (l0.length : Int) x17_1 false) = some (r1, r2) := by rw [if_neg (show ¬ (false = true) by decide)] at H; exact H
                          clear H
                          have H := H1
                          clear H1
                          have H' := Aside0.mk H
                          clear H
                          go_wp2_with (first | (go_at_call 50; (with_reducible refine (impl_InRange.calls (rd l0 x17_1) (-4) (-2) false _ A26.out).mono ?_); rintro e w' ⟨rfl, ⟨nd, rfl⟩⟩; (try first | exact ⟨rfl, _, World.drewN_drewN _ _ _⟩ | exact ⟨rfl, _, Eq.trans (World.drewN_drewN _ _ _) (congrArg (World.drewN _) (Nat.add_assoc _ _ _))⟩)))
                          repeat (go_quiet (first | (go_at_call 50; (with_reducible refine (impl_InRange.calls (rd l0 x17_1) (-4) (-2) false _ A26.out).mono ?_); rintro e w' ⟨rfl, ⟨nd, rfl⟩⟩; (try first | exact ⟨rfl, _, World.drewN_drewN _ _ _⟩ | exact ⟨rfl, _, Eq.trans (World.drewN_drewN _ _ _) (congrArg (World.drewN _) (Nat.add_assoc _ _ _))⟩))); try go_wp2_with (first | (go_at_call 50; (with_reducible refine (impl_InRange.calls (rd l0 x17_1) (-4) (-2) false _ A26.out).mono ?_); rintro e w' ⟨rfl, ⟨nd, rfl⟩⟩; (try first | exact ⟨rfl, _, World.drewN_drewN _ _ _⟩ | exact ⟨rfl, _, Eq.trans (World.drewN_drewN _ _ _) (congrArg (World.drewN _) (Nat.add_assoc _ _ _))⟩))))
                          go_meet
                          case rel => exact ⟨_, (false), (by first | rfl | (simp; done) | (simp [*]; done)), H', ⟨by have := HK1.out; have := HJ14.out; first | omega | exact Nat.le_refl _⟩, ⟨by (with_reducible repeat (first | apply Kd.R_alloc | apply Kd.R_drewN | apply Kd.R_drew)); exact HO_4.out⟩, ⟨by repeat (first | (with_reducible first | exact HB.out | apply below_alloc | apply pw_below_drewN | apply below_drew1) | exact HB.out)⟩⟩
                      case rest =>
                        clear HC25
                        try clear c1
                        try clear p1
                        try clear q1
                        try clear hx1
                        try clear c2
                        try clear p2
                        try clear q2
                        try clear hx2
                        try clear hf2
                        try clear c3
                        try clear c4
                        try clear c6
                        try clear c6b0
                        try clear p6
                        try clear c7
                        try clear c7b0
                        try clear c8
                        try clear c8b0
                        try clear c10
                        try clear c12
                        try clear c17
                        try clear c17b0
                        try clear c17b1
                        try clear p17
                        try clear q17
                        try clear hx17
                        try clear c18
                        try clear c20
                        try clear c20b0
                        try clear c21
                        try clear c21b0
                        try clear p22
                        try clear q22
                        try clear hx22
                        try clear hf22
                        try clear c27
                        try clear hx171_0
                        try clear hx177_0
                        try clear hx22_0
                        try clear p1
                        try clear p17
                        try clear p171
                        try clear p177
                        try clear p2
                        try clear p22
                        try clear p6
                        try clear q1
                        try clear q17
                        try clear q171
                        try clear q177
                        try clear q22
                        obtain ⟨kq, x48_24, rfl, HA, HJ24, HO_4, HB⟩ := hcut
                        cases kq with
                        | zero => exact absurd HA.out (by simp [impl_rowsOf.j2])
                        | succ kj24 =>
                          have H := HA.out
                          clear HA
                          simp only [impl_rowsOf.j2] at H
                          by_cases c28 : x48_24 = true
                          · subst c28
                            have H1 : (if 0 ≤ (wrap64 ((x4_1.length : Int) - 2)) then (if (wrap64 ((x4_1.length : Int) - 2)) < (x4_1.length : Int) then (if 0 ≤ (wrap64 ((x4_1.length : Int) - 1)) then (if (wrap64 ((x4_1.length : Int) - 1)) < (x4_1.length : Int) then (if (wrap64 ((x4_1.length : Int) - 1)) ≤ (x4_1.length : Int) then ((some (x4_1.take ((wrap64 ((x4_1.length : Int) - 1)) : Int).toNat : List Int)).bind fun y182 => (if (rd l0 x17_1) = (-2) then (if (wrap64 ((x4_1.length : Int) - 2)) < (y182.length : Int) then (impl_rowsOf.l0 kj24 (y182.set ((wrap64 ((x4_1.length : Int) - 2)) : Int).toNat (Go.bits .and .u64 (rd x4_1 (wrap64 ((x4_1.length : Int) - 2))) (rd x4_1 (wrap64 ((x4_1.length : Int) - 1))))) l0 (l0.length : Int) (wrap64 (x17_1 + 1))) else (none)) else (if (rd l0 x17_1) = (-3) then (if (wrap64 ((x4_1.length : Int) - 2)) < (y182.length : Int) then (impl_rowsOf.l0 kj24 (y182.set ((wrap64 ((x4_1.length : Int) - 2)) : Int).toNat (Go.bits .or .u64 (rd x4_1 (wrap64 ((x4_1.length : Int) - 2))) (rd x4_1 (wrap64 ((x4_1.length : Int) - 1))))) l0 (l0.length : Int) (wrap64 (x17_1 + 1))) else (none)) else (if (wrap64 ((x4_1.length : Int) - 2)) < (y182.length : Int) then (impl_rowsOf.l0 kj24 (y182.set ((wrap64 ((x4_1.length : Int) - 2)) : Int).toNat (Go.bits .or .u64 (Go.bits .xor .u64 18446744073709551615 (rd x4_1 (wrap64 ((x4_1.length : Int) - 2)))) (rd x4_1 (wrap64 ((x4_1.length : Int) - 1))))) l0 (l0.length : Int) (wrap64 (x17_1 + 1))) else (none))))) else (none)) else (none)) else (none)) else (none)) else (none)) = some (r1, r2) := by rw [if_pos rfl] at H; exact H
                            clear H
                            have H := H1
                            clear H1
                            obtain ⟨ji29, hji29⟩ : ∃ j_ : Int, (wrap64 ((x4_1.length : Int) - 2)) = j_ := ⟨_, rfl⟩
                            replace H : (if 0 ≤ (ji29) then (if (ji29) < (x4_1.length : Int) then (if 0 ≤ (wrap64 ((x4_1.length : Int) - 1)) then (if (wrap64 ((x4_1.length : Int) - 1)) < (x4_1.length : Int) then (if (wrap64 ((x4_1.length : Int) - 1)) ≤ (x4_1.length : Int) then ((some (x4_1.take ((wrap64 ((x4_1.length : Int) - 1)) : Int).toNat : List Int)).bind fun y182 => (if (rd l0 x17_1) = (-2) then (if (ji29) < (y182.length : Int) then (impl_rowsOf.l0 kj24 (y182.set ((ji29) : Int).toNat (Go.bits .and .u64 (rd x4_1 (ji29)) (rd x4_1 (wrap64 ((x4_1.length : Int) - 1))))) l0 (l0.length : Int) (wrap64 (x17_1 + 1))) else (none)) else (if (rd l0 x17_1) = (-3) then (if (ji29) < (y182.length : Int) then (impl_rowsOf.l0 kj24 (y182.set ((ji29) : Int).toNat (Go.bits .or .u64 (rd x4_1 (ji29)) (rd x4_1 (wrap64 ((x4_1.length : Int) - 1))))) l0 (l0.length : Int) (wrap64 (x17_1 + 1))) else (none)) else (if (ji29) < (y182.length : Int) then (impl_rowsOf.l0 kj24 (y182.set ((ji29) : Int).toNat (Go.bits .or .u64 (Go.bits .xor .u64 18446744073709551615 (rd x4_1 (ji29))) (rd x4_1 (wrap64 ((x4_1.length : Int) - 1))))) l0 (l0.length : Int) (wrap64 (x17_1 + 1))) else (none))))) else (none)) else (none)) else (none)) else (none)) else (none)) = some (r1, r2) := by first | (rw [hji29] at H; exact H) | (simp only [hji29] at H ⊢; exact H)
                            have hji29w : (IntKind.i64.wrap ((x4_1.length : Int) - 2)) = ji29 := (i64_w _).trans hji29
                            by_cases c30 : 0 ≤ (ji29)
                            · rw [if_pos c30] at H
                              have c30b0 : decide (0 ≤ (ji29)) = true := decide_eq_true c30
                              clear c30
                              by_cases c31 : (ji29) < (x4_1.length : Int)
                              · rw [if_pos c31] at H
                                have c31b0 : decide ((ji29) < (x4_1.length : Int)) = true := decide_eq_true c31
                                clear c31
                                obtain ⟨ji32, hji32⟩ : ∃ j_ : Int, (wrap64 ((x4_1.length : Int) - 1)) = j_ := ⟨_, rfl⟩
                                replace H : (if 0 ≤ (ji32) then (if (ji32) < (x4_1.length : Int) then (if (ji32) ≤ (x4_1.length : Int) then ((some (x4_1.take ((ji32) : Int).toNat : List Int)).bind fun y182 => (if (rd l0 x17_1) = (-2) then (if (ji29) < (y182.length : Int) then (impl_rowsOf.l0 kj24 (y182.set ((ji29) : Int).toNat (Go.bits .and .u64 (rd x4_1 (ji29)) (rd x4_1 (ji32)))) l0 (l0.length : Int) (wrap64 (x17_1 + 1))) else (none)) else (if (rd l0 x17_1) = (-3) then (if (ji29) < (y182.length : Int) then (impl_rowsOf.l0 kj24 (y182.set ((ji29) : Int).toNat (Go.bits .or .u64 (rd x4_1 (ji29)) (rd x4_1 (ji32)))) l0 (l0.length : Int) (wrap64 (x17_1 + 1))) else (none)) else (if (ji29) < (y182.length : Int) then (impl_rowsOf.l0 kj24 (y182.set ((ji29) : Int).toNat (Go.bits .or .u64 (Go.bits .xor .u64 18446744073709551615 (rd x4_1 (ji29))) (rd x4_1 (ji32)))) l0 (l0.length : Int) (wrap64 (x17_1 + 1))) else (none))))) else (none)) else (none)) else (none)) = some (r1, r2) := by first | (rw [hji32] at H; exact H) | (simp only [hji32] at H ⊢; exact H)
                                have hji32w : (IntKind.i64.wrap ((x4_1.length : Int) - 1)) = ji32 := (i64_w _).trans hji32
                                by_cases c33 : 0 ≤ (ji32)
                                · rw [if_pos c33] at H
                                  have c33b0 : decide (0 ≤ (ji32)) = true := decide_eq_true c33
                                  clear c33
                                  by_cases c34 : (ji32) < (x4_1.length : Int)
                                  · rw [if_pos c34] at H
                                    have c34b0 : decide ((ji32) < (x4_1.length : Int)) = true := decide_eq_true c34
                                    clear c34
                                    by_cases c35 : (ji32) ≤ (x4_1.length : Int)
                                    · rw [if_pos c35] at H
                                      have c35b0 := eq_true c35
                                      have c35b1 : decide ((ji32) ≤ (x4_1.length : Int)) = true := decide_eq_true c35
                                      clear c35
                                      obtain ⟨y182, hy182⟩ : ∃ y_ : List Int, y_ = (x4_1.take ((ji32) : Int).toNat) := ⟨_, rfl⟩
                                      replace H : (if (rd l0 x17_1) = (-2) then (if (ji29) < (y182.length : Int) then (impl_rowsOf.l0 kj24 (y182.set ((ji29) : Int).toNat (Go.bits .and .u64 (rd x4_1 (ji29)) (rd x4_1 (ji32)))) l0 (l0.length : Int) (wrap64 (x17_1 + 1))) else (none)) else (if (rd l0 x17_1) = (-3) then (if (ji29) < (y182.length : Int) then (impl_rowsOf.l0 kj24 (y182.set ((ji29) : Int).toNat (Go.bits .or .u64 (rd x4_1 (ji29)) (rd x4_1 (ji32)))) l0 (l0.length : Int) (wrap64 (x17_1 + 1))) else (none)) else (if (ji29) < (y182.length : Int) then (impl_rowsOf.l0 kj24 (y182.set ((ji29) : Int).toNat (Go.bits .or .u64 (Go.bits .xor .u64 18446744073709551615 (rd x4_1 (ji29))) (rd x4_1 (ji32)))) l0 (l0.length : Int) (wrap64 (x17_1 + 1))) else (none)))) = some (r1, r2) := by first | (rw [hy182]; with_reducible exact H) | (have H2_ := (Option.bind_some _ _).symm.trans H; rw [hy182]; with_reducible exact H2_) | (have H2_ := (Option.bind_some _ _).symm.trans H; with_reducible exact H2_) | with_reducible exact H | (rw [hy182]; exact H) | exact H
                                      have Ny182 := Aside0.mk hy182
                                      clear hy182
                                      by_cases c36 : (rd l0 x17_1) = (-2)
                                      · rw [if_pos c36] at H
                                        have c36b0 : ((rd l0 x17_1) == (-2)) = true := beq_iff_eq.mpr c36
                                        have c36b1 : ((rd l0 x17_1) != (-2)) = false := bne_eq_false_iff_eq.mpr c36
                                        clear c36
                                        by_cases c37 : (ji29) < (y182.length : Int)
                                        · rw [if_pos c37] at H
                                          have c37b0 : decide ((ji29) < (y182.length : Int)) = true := decide_eq_true c37
                                          clear c37
                                          obtain ⟨y185, hy185⟩ : ∃ y_ : List Int, y_ = (y182.set ((ji29) : Int).toNat (Go.bits .and .u64 (rd x4_1 (ji29)) (rd x4_1 (ji32)))) := ⟨_, rfl⟩
                                          replace H : (impl_rowsOf.l0 kj24 y185 l0 (l0.length : Int) (wrap64 (x17_1 + 1))) = some (r1, r2) := by first | (rw [hy185]; with_reducible exact H) | (have H2_ := (Option.bind_some _ _).symm.trans H; rw [hy185]; with_reducible exact H2_) | (have H2_ := (Option.bind_some _ _).symm.trans H; with_reducible exact H2_) | with_reducible exact H | (rw [hy185]; exact H) | exact H
                                          have Ny185 := Aside0.mk hy185
                                          clear hy185
                                          have H' := Aside0.mk H
                                          clear H
                                          have p180 : 0 ≤ ((ji29) : Int) := of_decide_eq_true (by first | (with_reducible assumption) | assumption)
                                          have q180 : (ji29) < (x4_1.length : Int) := of_decide_eq_true (by first | (with_reducible assumption) | assumption)
                                          obtain ⟨ad180, e180, hx180_0⟩ := Kd.at_int (Kd.R_reads' HO_4.out).2.2 (ji29) p180 q180
                                          cases e180
                                          replace p180 := eq_true p180
                                          replace q180 := eq_true q180
                                          have p181 : 0 ≤ ((ji32) : Int) := of_decide_eq_true (by first | (with_reducible assumption) | assumption)
                                          have q181 : (ji32) < (x4_1.length : Int) := of_decide_eq_true (by first | (with_reducible assumption) | assumption)
                                          obtain ⟨ad181, e181, hx181_0⟩ := Kd.at_int (Kd.R_reads' HO_4.out).2.2 (ji32) p181 q181
                                          obtain rfl : ad180 = ad181 := (by injection e181)
                                          replace p181 := eq_true p181
                                          replace q181 := eq_true q181
                                          have q39 : ((ji32) : Int) ≤ ((x4_1.length : Int) : Int) := of_decide_eq_true (by first | (with_reducible assumption) | assumption)
                                          obtain ⟨i039, hi039, _, hsz39, _⟩ := info_parts info42
                                          have hcut39 := cut_to (P := Try.prog) 54 42 .i64 Try.underlying54 hi039 (some ad180) x4_1.length co16 (ji32) (of_decide_eq_true (by first | (with_reducible assumption) | assumption)) q39 (Kd.R_reads' HO_4.out).2.1
                                          have hr39 := Kd.R_take (m := ((ji32) : Int).toNat) HO_4.out (by first | omega | (rw [Ny185.out, List.length_set]; omega) | (rw [Ny182.out, List.length_set]; omega) | (rw [Ny178.out, List.length_set]; omega) | (rw [Ny174.out, List.length_set]; omega) | (rw [Ny167.out, List.length_set]; omega))
                                          have hy39 : y182.length = ((ji32) : Int).toNat := (by first | (rw [Ny182.out, List.length_take]; omega) | (rw [Ny182.out, List.length_take, Ny185.out, List.length_set]; omega) | (rw [Ny182.out, List.length_take, Ny178.out, List.length_set]; omega) | (rw [Ny182.out, List.length_take, Ny174.out, List.length_set]; omega) | (rw [Ny182.out, List.length_take, Ny167.out, List.length_set]; omega))
                                          rw [← Ny182.out] at hr39
                                          rw [← hy39] at hr39 hcut39
                                          clear hy39 hi039 hsz39 HO_4
                                          have HO184 := Aside0.mk hr39
                                          clear hr39
                                          replace q39 := eq_true q39
                                          have p38 : 0 ≤ ((ji29) : Int) := of_decide_eq_true (by first | (with_reducible assumption) | assumption)
                                          have q38 : ((ji29) : Int) < ((y182.length : Int) : Int) := of_decide_eq_true (by first | (with_reducible assumption) | assumption)
                                          obtain ⟨go38, co38, eo38, gb38, gl38, cl38, HG38⟩ := Kd.R_form HO184.out (by omega)
                                          (first | cases eo38 | (injection eo38 with ea_ en_ ec_; (first | subst ea_ | (injection ea_ with ea_; subst ea_)); subst ec_; clear en_))
                                          have GB38 := Aside0.mk gb38
                                          have GG38 := Aside0.mk HG38
                                          clear gb38 gl38 HG38
                                          (first | simp only [add_plain] at hx180_0 | skip)
                                          (first | simp only [add_plain] at hx181_0 | skip)
                                          obtain ⟨hx38_0, hf38_0⟩ := Kd.R_celln 0 HO184.out ((ji29) : Int) p38 q38
                                          replace p38 := eq_true p38
                                          replace q38 := eq_true q38
                                          have HP40 := Kd.R_putg HO184.out ((ji29) : Int) (Go.bits .and .u64 (rd x4_1 (ji29)) (rd x4_1 (ji32)))
                                          go_wp2_with (first | ((with_reducible refine gate_store (t := 42) (p := 86) rfl ?_); (try (rw [drewN_self wc]; generalize hq_ : World.drewN wc _ = wc; have n0_ := Aside0.mk (Kd.R_at hq_ HO184.out); have n1_ := Aside0.mk (below_at hq_ HB.out); clear hq_ HO184 HB; have HO184 := n0_; have HB := n1_; clear n0_ n1_; (try (have HP40 := Kd.R_putg HO184.out ((ji29) : Int) (Go.bits .and .u64 (rd x4_1 (ji29)) (rd x4_1 (ji32))))); (try (obtain ⟨hx38_0, hf38_0⟩ := Kd.R_celln 0 HO184.out ((ji29) : Int) (of_eq_true p38) (of_eq_true q38))))); refine store_event (t := 42) (p := 86) (v := ?vo_w41) (w1 := (wc.setCell ⟨go38, ((ji29) : Int).toNat, none⟩ (.int .u64 (Go.bits .and .u64 (rd x4_1 (ji29)) (rd x4_1 (ji32)))))) ?hg ?ho ?hn ?hr ?_; (case ho => rfl); (case hg => rfl); (case hn => rfl); (case hr => first | (go_simp; done) | (go_simp; rfl)); intro w41 hw; have hg : wc.grownBy w41 (some go38) := (by rw [hw]; exact HP40.2); have hp_ : Kd.R (Kd.int .u64) 42 w41 w.heap.size (fun _ => True) (.slice (some ⟨go38, 0, none⟩) y182.length co16) y185 := (by rw [hw, Ny185.out]; exact HP40.1); clear HP40; have n0_ := Aside0.mk (hp_); have n1_ := Aside0.mk ((by rw [hw]; exact below_set (HB.out) GB38.out : Below w.heap.size w w41)); clear HO184; clear HB; have HO184 := n0_; have HB := n1_; clear n0_ n1_; clear hg hw hp_))
                                          repeat (go_quiet (first | ((with_reducible refine gate_store (t := 42) (p := 86) rfl ?_); (try (rw [drewN_self wc]; generalize hq_ : World.drewN wc _ = wc; have n0_ := Aside0.mk (Kd.R_at hq_ HO184.out); have n1_ := Aside0.mk (below_at hq_ HB.out); clear hq_ HO184 HB; have HO184 := n0_; have HB := n1_; clear n0_ n1_; (try (have HP40 := Kd.R_putg HO184.out ((ji29) : Int) (Go.bits .and .u64 (rd x4_1 (ji29)) (rd x4_1 (ji32))))); (try (obtain ⟨hx38_0, hf38_0⟩ := Kd.R_celln 0 HO184.out ((ji29) : Int) (of_eq_true p38) (of_eq_true q38))))); refine store_event (t := 42) (p := 86) (v := ?vo_w41) (w1 := (wc.setCell ⟨go38, ((ji29) : Int).toNat, none⟩ (.int .u64 (Go.bits .and .u64 (rd x4_1 (ji29)) (rd x4_1 (ji32)))))) ?hg ?ho ?hn ?hr ?_; (case ho => rfl); (case hg => rfl); (case hn => rfl); (case hr => first | (go_simp; done) | (go_simp; rfl)); intro w41 hw; have hg : wc.grownBy w41 (some go38) := (by rw [hw]; exact HP40.2); have hp_ : Kd.R (Kd.int .u64) 42 w41 w.heap.size (fun _ => True) (.slice (some ⟨go38, 0, none⟩) y182.length co16) y185 := (by rw [hw, Ny185.out]; exact HP40.1); clear HP40; have n0_ := Aside0.mk (hp_); have n1_ := Aside0.mk ((by rw [hw]; exact below_set (HB.out) GB38.out : Below w.heap.size w w41)); clear HO184; clear HB; have HO184 := n0_; have HB := n1_; clear n0_ n1_; clear hg hw hp_)); try go_wp2_with (first | ((with_reducible refine gate_store (t := 42) (p := 86) rfl ?_); (try (rw [drewN_self wc]; generalize hq_ : World.drewN wc _ = wc; have n0_ := Aside0.mk (Kd.R_at hq_ HO184.out); have n1_ := Aside0.mk (below_at hq_ HB.out); clear hq_ HO184 HB; have HO184 := n0_; have HB := n1_; clear n0_ n1_; (try (have HP40 := Kd.R_putg HO184.out ((ji29) : Int) (Go.bits .and .u64 (rd x4_1 (ji29)) (rd x4_1 (ji32))))); (try (obtain ⟨hx38_0, hf38_0⟩ := Kd.R_celln 0 HO184.out ((ji29) : Int) (of_eq_true p38) (of_eq_true q38))))); refine store_event (t := 42) (p := 86) (v := ?vo_w41) (w1 := (wc.setCell ⟨go38, ((ji29) : Int).toNat, none⟩ (.int .u64 (Go.bits .and .u64 (rd x4_1 (ji29)) (rd x4_1 (ji32)))))) ?hg ?ho ?hn ?hr ?_; (case ho => rfl); (case hg => rfl); (case hn => rfl); (case hr => first | (go_simp; done) | (go_simp; rfl)); intro w41 hw; have hg : wc.grownBy w41 (some go38) := (by rw [hw]; exact HP40.2); have hp_ : Kd.R (Kd.int .u64) 42 w41 w.heap.size (fun _ => True) (.slice (some ⟨go38, 0, none⟩) y182.length co16) y185 := (by rw [hw, Ny185.out]; exact HP40.1); clear HP40; have n0_ := Aside0.mk (hp_); have n1_ := Aside0.mk ((by rw [hw]; exact below_set (HB.out) GB38.out : Below w.heap.size w w41)); clear HO184; clear HB; have HO184 := n0_; have HB := n1_; clear n0_ n1_; clear hg hw hp_)))
                                          go_roundg kj24
                                          case measure => have := HK1.out; have := HJ14.out; have := HJ24.out; omega
                                          case rel => exact ⟨(y185), (wrap64 (x17_1 + 1)), (by first | rfl | (simp; done) | (simp [*]; done)), H', ⟨by have := HK1.out; have := HJ14.out; have := HJ24.out; omega⟩, ⟨by (with_reducible repeat (first | apply Kd.R_alloc | apply Kd.R_drewN | apply Kd.R_drew)); exact HO184.out⟩, ⟨by repeat (first | (with_reducible first | exact HB.out | apply below_alloc | apply pw_below_drewN | apply below_drew1) | exact HB.out)⟩⟩
                                        · rw [if_neg c37] at H
                                          exact absurd H (by simp)
                                      · rw [if_neg c36] at H
                                        have c36b0 : ((rd l0 x17_1) == (-2)) = false := beq_eq_false_iff_ne.mpr c36
                                        have c36b1 : ((rd l0 x17_1) != (-2)) = true := bne_iff_ne.mpr c36
                                        by_cases c42 : (rd l0 x17_1) = (-3)
                                        · rw [if_pos c42] at H
                                          have c42b0 : ((rd l0 x17_1) == (-3)) = true := beq_iff_eq.mpr c42
                                          have c42b1 : ((rd l0 x17_1) != (-3)) = false := bne_eq_false_iff_eq.mpr c42
                                          clear c42
                                          by_cases c43 : (ji29) < (y182.length : Int)
                                          · rw [if_pos c43] at H
                                            have c43b0 : decide ((ji29) < (y182.length : Int)) = true := decide_eq_true c43
                                            clear c43
                                            obtain ⟨y186, hy186⟩ : ∃ y_ : List Int, y_ = (y182.set ((ji29) : Int).toNat (Go.bits .or .u64 (rd x4_1 (ji29)) (rd x4_1 (ji32)))) := ⟨_, rfl⟩
                                            replace H : (impl_rowsOf.l0 kj24 y186 l0 (l0.length : Int) (wrap64 (x17_1 + 1))) = some (r1, r2) := by first | (rw [hy186]; with_reducible exact H) | (have H2_ := (Option.bind_some _ _).symm.trans H; rw [hy186]; with_reducible exact H2_) | (have H2_ := (Option.bind_some _ _).symm.trans H; with_reducible exact H2_) | with_reducible exact H | (rw [hy186]; exact H) | exact H
                                            have Ny186 := Aside0.mk hy186
                                            clear hy186
                                            have H' := Aside0.mk H
                                            clear H
                                            have p180 : 0 ≤ ((ji29) : Int) := of_decide_eq_true (by first | (with_reducible assumption) | assumption)
                                            have q180 : (ji29) < (x4_1.length : Int) := of_decide_eq_true (by first | (with_reducible assumption) | assumption)
                                            obtain ⟨ad180, e180, hx180_0⟩ := Kd.at_int (Kd.R_reads' HO_4.out).2.2 (ji29) p180 q180
                                            cases e180
                                            replace p180 := eq_true p180
                                            replace q180 := eq_true q180
                                            have p181 : 0 ≤ ((ji32) : Int) := of_decide_eq_true (by first | (with_reducible assumption) | assumption)
                                            have q181 : (ji32) < (x4_1.length : Int) := of_decide_eq_true (by first | (with_reducible assumption) | assumption)
                                            obtain ⟨ad181, e181, hx181_0⟩ := Kd.at_int (Kd.R_reads' HO_4.out).2.2 (ji32) p181 q181
                                            obtain rfl : ad180 = ad181 := (by injection e181)
                                            replace p181 := eq_true p181
                                            replace q181 := eq_true q181
                                            have q45 : ((ji32) : Int) ≤ ((x4_1.length : Int) : Int) := of_decide_eq_true (by first | (with_reducible assumption) | assumption)
                                            obtain ⟨i045, hi045, _, hsz45, _⟩ := info_parts info42
                                            have hcut45 := cut_to (P := Try.prog) 54 42 .i64 Try.underlying54 hi045 (some ad180) x4_1.length co16 (ji32) (of_decide_eq_true (by first | (with_reducible assumption) | assumption)) q45 (Kd.R_reads' HO_4.out).2.1
                                            have hr45 := Kd.R_take (m := ((ji32) : Int).toNat) HO_4.out (by first | omega | (rw [Ny186.out, List.length_set]; omega) | (rw [Ny185.out, List.length_set]; omega) | (rw [Ny182.out, List.length_set]; omega) | (rw [Ny178.out, List.length_set]; omega) | (rw [Ny174.out, List.length_set]; omega) | (rw [Ny167.out, List.length_set]; omega))
                                            have hy45 : y182.length = ((ji32) : Int).toNat := (by first | (rw [Ny182.out, List.length_take]; omega) | (rw [Ny182.out, List.length_take, Ny186.out, List.length_set]; omega) | (rw [Ny182.out, List.length_take, Ny185.out, List.length_set]; omega) | (rw [Ny182.out, List.length_take, Ny178.out, List.length_set]; omega) | (rw [Ny182.out, List.length_take, Ny174.out, List.length_set]; omega) | (rw [Ny182.out, List.length_take, Ny167.out, List.length_set]; omega))
                                            rw [← Ny182.out] at hr45
                                            rw [← hy45] at hr45 hcut45
                                            clear hy45 hi045 hsz45 HO_4
                                            have HO184 := Aside0.mk hr45
                                            clear hr45
                                            replace q45 := eq_true q45
                                            have p44 : 0 ≤ ((ji29) : Int) := of_decide_eq_true (by first | (with_reducible assumption) | assumption)
                                            have q44 : ((ji29) : Int) < ((y182.length : Int) : Int) := of_decide_eq_true (by first | (with_reducible assumption) | assumption)
                                            obtain ⟨go44, co44, eo44, gb44, gl44, cl44, HG44⟩ := Kd.R_form HO184.out (by omega)
                                            (first | cases eo44 | (injection eo44 with ea_ en_ ec_; (first | subst ea_ | (injection ea_ with ea_; subst ea_)); subst ec_; clear en_))
                                            have GB44 := Aside0.mk gb44
                                            have GG44 := Aside0.mk HG44
                                            clear gb44 gl44 HG44
                                            (first | simp only [add_plain] at hx180_0 | skip)
                                            (first | simp only [add_plain] at hx181_0 | skip)
                                            obtain ⟨hx44_0, hf44_0⟩ := Kd.R_celln 0 HO184.out ((ji29) : Int) p44 q44
                                            replace p44 := eq_true p44
                                            replace q44 := eq_true q44
                                            have HP46 := Kd.R_putg HO184.out ((ji29) : Int) (Go.bits .or .u64 (rd x4_1 (ji29)) (rd x4_1 (ji32)))
                                            go_wp2_with (first | ((with_reducible refine gate_store (t := 42) (p := 95) rfl ?_); (try (rw [drewN_self wc]; generalize hq_ : World.drewN wc _ = wc; have n0_ := Aside0.mk (Kd.R_at hq_ HO184.out); have n1_ := Aside0.mk (below_at hq_ HB.out); clear hq_ HO184 HB; have HO184 := n0_; have HB := n1_; clear n0_ n1_; (try (have HP46 := Kd.R_putg HO184.out ((ji29) : Int) (Go.bits .or .u64 (rd x4_1 (ji29)) (rd x4_1 (ji32))))); (try (obtain ⟨hx44_0, hf44_0⟩ := Kd.R_celln 0 HO184.out ((ji29) : Int) (of_eq_true p44) (of_eq_true q44))))); refine store_event (t := 42) (p := 95) (v := ?vo_w47) (w1 := (wc.setCell ⟨go44, ((ji29) : Int).toNat, none⟩ (.int .u64 (Go.bits .or .u64 (rd x4_1 (ji29)) (rd x4_1 (ji32)))))) ?hg ?ho ?hn ?hr ?_; (case ho => rfl); (case hg => rfl); (case hn => rfl); (case hr => first | (go_simp; done) | (go_simp; rfl)); intro w47 hw; have hg : wc.grownBy w47 (some go44) := (by rw [hw]; exact HP46.2); have hp_ : Kd.R (Kd.int .u64) 42 w47 w.heap.size (fun _ => True) (.slice (some ⟨go44, 0, none⟩) y182.length co16) y186 := (by rw [hw, Ny186.out]; exact HP46.1); clear HP46; have n0_ := Aside0.mk (hp_); have n1_ := Aside0.mk ((by rw [hw]; exact below_set (HB.out) GB44.out : Below w.heap.size w w47)); clear HO184; clear HB; have HO184 := n0_; have HB := n1_; clear n0_ n1_; clear hg hw hp_))
                                            repeat (go_quiet (first | ((with_reducible refine gate_store (t := 42) (p := 95) rfl ?_); (try (rw [drewN_self wc]; generalize hq_ : World.drewN wc _ = wc; have n0_ := Aside0.mk (Kd.R_at hq_ HO184.out); have n1_ := Aside0.mk (below_at hq_ HB.out); clear hq_ HO184 HB; have HO184 := n0_; have HB := n1_; clear n0_ n1_; (try (have HP46 := Kd.R_putg HO184.out ((ji29) : Int) (Go.bits .or .u64 (rd x4_1 (ji29)) (rd x4_1 (ji32))))); (try (obtain ⟨hx44_0, hf44_0⟩ := Kd.R_celln 0 HO184.out ((ji29) : Int) (of_eq_true p44) (of_eq_true q44))))); refine store_event (t := 42) (p := 95) (v := ?vo_w47) (w1 := (wc.setCell ⟨go44, ((ji29) : Int).toNat, none⟩ (.int .u64 (Go.bits .or .u64 (rd x4_1 (ji29)) (rd x4_1 (ji32)))))) ?hg ?ho ?hn ?hr ?_; (case ho => rfl); (case hg => rfl); (case hn => rfl); (case hr => first | (go_simp; done) | (go_simp; rfl)); intro w47 hw; have hg : wc.grownBy w47 (some go44) := (by rw [hw]; exact HP46.2); have hp_ : Kd.R (Kd.int .u64) 42 w47 w.heap.size (fun _ => True) (.slice (some ⟨go44, 0, none⟩) y182.length co16) y186 := (by rw [hw, Ny186.out]; exact HP46.1); clear HP46; have n0_ := Aside0.mk (hp_); have n1_ := Aside0.mk ((by rw [hw]; exact below_set (HB.out) GB44.out : Below w.heap.size w w47)); clear HO184; clear HB; have HO184 := n0_; have HB := n1_; clear n0_ n1_; clear hg hw hp_)); try go_wp2_with (first | ((with_reducible refine gate_store (t := 42) (p := 95) rfl ?_); (try (rw [drewN_self wc]; generalize hq_ : World.drewN wc _ = wc; have n0_ := Aside0.mk (Kd.R_at hq_ HO184.out); have n1_ := Aside0.mk (below_at hq_ HB.out); clear hq_ HO184 HB; have HO184 := n0_; have HB := n1_; clear n0_ n1_; (try (have HP46 := Kd.R_putg HO184.out ((ji29) : Int) (Go.bits .or .u64 (rd x4_1 (ji29)) (rd x4_1 (ji32))))); (try (obtain ⟨hx44_0, hf44_0⟩ := Kd.R_celln 0 HO184.out ((ji29) : Int) (of_eq_true p44) (of_eq_true q44))))); refine store_event (t := 42) (p := 95) (v := ?vo_w47) (w1 := (wc.setCell ⟨go44, ((ji29) : Int).toNat, none⟩ (.int .u64 (Go.bits .or .u64 (rd x4_1 (ji29)) (rd x4_1 (ji32)))))) ?hg ?ho ?hn ?hr ?_; (case ho => rfl); (case hg => rfl); (case hn => rfl); (case hr => first | (go_simp; done) | (go_simp; rfl)); intro w47 hw; have hg : wc.grownBy w47 (some go44) := (by rw [hw]; exact HP46.2); have hp_ : Kd.R (Kd.int .u64) 42 w47 w.heap.size (fun _ => True) (.slice (some ⟨go44, 0, none⟩) y182.length co16) y186 := (by rw [hw, Ny186.out]; exact HP46.1); clear HP46; have n0_ := Aside0.mk (hp_); have n1_ := Aside0.mk ((by rw [hw]; exact below_set (HB.out) GB44.out : Below w.heap.size w w47)); clear HO184; clear HB; have HO184 := n0_; have HB := n1_; clear n0_ n1_; clear hg hw hp_)))
                                            go_roundg kj24
                                            case measure => have := HK1.out; have := HJ14.out; have := HJ24.out; omega
                                            case rel => exact ⟨(y186), (wrap64 (x17_1 + 1)), (by first | rfl | (simp; done) | (simp [*]; done)), H', ⟨by have := HK1.out; have := HJ14.out; have := HJ24.out; omega⟩, ⟨by (with_reducible repeat (first | apply Kd.R_alloc | apply Kd.R_drewN | apply Kd.R_drew)); exact HO184.out⟩, ⟨by repeat (first | (with_reducible first | exact HB.out | apply below_alloc | apply pw_below_drewN | apply below_drew1) | exact HB.out)⟩⟩
                                          · rw [if_neg c43] at H
                                            exact absurd H (by simp)
                                        · rw [if_neg c42] at H
                                          have c42b0 : ((rd l0 x17_1) == (-3)) = false := beq_eq_false_iff_ne.mpr c42
                                          have c42b1 : ((rd l0 x17_1) != (-3)) = true := bne_iff_ne.mpr c42
                                          by_cases c48 : (ji29) < (y182.length : Int)
                                          · rw [if_pos c48] at H
                                            have c48b0 : decide ((ji29) < (y182.length : Int)) = true := decide_eq_true c48
                                            clear c48
                                            obtain ⟨y187, hy187⟩ : ∃ y_ : List Int, y_ = (y182.set ((ji29) : Int).toNat (Go.bits .or .u64 (Go.bits .xor .u64 18446744073709551615 (rd x4_1 (ji29))) (rd x4_1 (ji32)))) := ⟨_, rfl⟩
                                            replace H : (impl_rowsOf.l0 kj24 y187 l0 (l0.length : Int) (wrap64 (x17_1 + 1))) = some (r1, r2) := by first | (rw [hy187]; with_reducible exact H) | (have H2_ := (Option.bind_some _ _).symm.trans H; rw [hy187]; with_reducible exact H2_) | (have H2_ := (Option.bind_some _ _).symm.trans H; with_reducible exact H2_) | with_reducible exact H | (rw [hy187]; exact H) | exact H
                                            have Ny187 := Aside0.mk hy187
                                            clear hy187
                                            have H' := Aside0.mk H
                                            clear H
                                            have p180 : 0 ≤ ((ji29) : Int) := of_decide_eq_true (by first | (with_reducible assumption) | assumption)
                                            have q180 : (ji29) < (x4_1.length : Int) := of_decide_eq_true (by first | (with_reducible assumption) | assumption)
                                            obtain ⟨ad180, e180, hx180_0⟩ := Kd.at_int (Kd.R_reads' HO_4.out).2.2 (ji29) p180 q180
                                            cases e180
                                            replace p180 := eq_true p180
                                            replace q180 := eq_true q180
                                            have p181 : 0 ≤ ((ji32) : Int) := of_decide_eq_true (by first | (with_reducible assumption) | assumption)
                                            have q181 : (ji32) < (x4_1.length : Int) := of_decide_eq_true (by first | (with_reducible assumption) | assumption)
                                            obtain ⟨ad181, e181, hx181_0⟩ := Kd.at_int (Kd.R_reads' HO_4.out).2.2 (ji32) p181 q181
                                            obtain rfl : ad180 = ad181 := (by injection e181)
                                            replace p181 := eq_true p181
                                            replace q181 := eq_true q181
                                            have q50 : ((ji32) : Int) ≤ ((x4_1.length : Int) : Int) := of_decide_eq_true (by first | (with_reducible assumption) | assumption)
                                            obtain ⟨i050, hi050, _, hsz50, _⟩ := info_parts info42
                                            have hcut50 := cut_to (P := Try.prog) 54 42 .i64 Try.underlying54 hi050 (some ad180) x4_1.length co16 (ji32) (of_decide_eq_true (by first | (with_reducible assumption) | assumption)) q50 (Kd.R_reads' HO_4.out).2.1
                                            have hr50 := Kd.R_take (m := ((ji32) : Int).toNat) HO_4.out (by first | omega | (rw [Ny187.out, List.length_set]; omega) | (rw [Ny186.out, List.length_set]; omega) | (rw [Ny185.out, List.length_set]; omega) | (rw [Ny182.out, List.length_set]; omega) | (rw [Ny178.out, List.length_set]; omega) | (rw [Ny174.out, List.length_set]; omega) | (rw [Ny167.out, List.length_set]; omega))
                                            have hy50 : y182.length = ((ji32) : Int).toNat := (by first | (rw [Ny182.out, List.length_take]; omega) | (rw [Ny182.out, List.length_take, Ny187.out, List.length_set]; omega) | (rw [Ny182.out, List.length_take, Ny186.out, List.length_set]; omega) | (rw [Ny182.out, List.length_take, Ny185.out, List.length_set]; omega) | (rw [Ny182.out, List.length_take, Ny178.out, List.length_set]; omega) | (rw [Ny182.out, List.length_take, Ny174.out, List.length_set]; omega) | (rw [Ny182.out, List.length_take, Ny167.out, List.length_set]; omega))
                                            rw [← Ny182.out] at hr50
                                            rw [← hy50] at hr50 hcut50
                                            clear hy50 hi050 hsz50 HO_4
                                            have HO184 := Aside0.mk hr50
                                            clear hr50
                                            replace q50 := eq_true q50
                                            have p49 : 0 ≤ ((ji29) : Int) := of_decide_eq_true (by first | (with_reducible assumption) | assumption)
                                            have q49 : ((ji29) : Int) < ((y182.length : Int) : Int) := of_decide_eq_true (by first | (with_reducible assumption) | assumption)
                                            obtain ⟨go49, co49, eo49, gb49, gl49, cl49, HG49⟩ := Kd.R_form HO184.out (by omega)
                                            (first | cases eo49 | (injection eo49 with ea_ en_ ec_; (first | subst ea_ | (injection ea_ with ea_; subst ea_)); subst ec_; clear en_))
                                            have GB49 := Aside0.mk gb49
                                            have GG49 := Aside0.mk HG49
                                            clear gb49 gl49 HG49
                                            (first | simp only [add_plain] at hx180_0 | skip)
                                            (first | simp only [add_plain] at hx181_0 | skip)
                                            obtain ⟨hx49_0, hf49_0⟩ := Kd.R_celln 0 HO184.out ((ji29) : Int) p49 q49
                                            replace p49 := eq_true p49
                                            replace q49 := eq_true q49
                                            have HP51 := Kd.R_putg HO184.out ((ji29) : Int) (Go.bits .or .u64 (Go.bits .xor .u64 18446744073709551615 (rd x4_1 (ji29))) (rd x4_1 (ji32)))
                                            go_wp2_with (first | ((with_reducible refine gate_store (t := 42) (p := 77) rfl ?_); (try (rw [drewN_self wc]; generalize hq_ : World.drewN wc _ = wc; have n0_ := Aside0.mk (Kd.R_at hq_ HO184.out); have n1_ := Aside0.mk (below_at hq_ HB.out); clear hq_ HO184 HB; have HO184 := n0_; have HB := n1_; clear n0_ n1_; (try (have HP51 := Kd.R_putg HO184.out ((ji29) : Int) (Go.bits .or .u64 (Go.bits .xor .u64 18446744073709551615 (rd x4_1 (ji29))) (rd x4_1 (ji32))))); (try (obtain ⟨hx49_0, hf49_0⟩ := Kd.R_celln 0 HO184.out ((ji29) : Int) (of_eq_true p49) (of_eq_true q49))))); refine store_event (t := 42) (p := 77) (v := ?vo_w52) (w1 := (wc.setCell ⟨go49, ((ji29) : Int).toNat, none⟩ (.int .u64 (Go.bits .or .u64 (Go.bits .xor .u64 18446744073709551615 (rd x4_1 (ji29))) (rd x4_1 (ji32)))))) ?hg ?ho ?hn ?hr ?_; (case ho => rfl); (case hg => rfl); (case hn => rfl); (case hr => first | (go_simp; done) | (go_simp; rfl)); intro w52 hw; have hg : wc.grownBy w52 (some go49) := (by rw [hw]; exact HP51.2); have hp_ : Kd.R (Kd.int .u64) 42 w52 w.heap.size (fun _ => True) (.slice (some ⟨go49, 0, none⟩) y182.length co16) y187 := (by rw [hw, Ny187.out]; exact HP51.1); clear HP51; have n0_ := Aside0.mk (hp_); have n1_ := Aside0.mk ((by rw [hw]; exact below_set (HB.out) GB49.out : Below w.heap.size w w52)); clear HO184; clear HB; have HO184 := n0_; have HB := n1_; clear n0_ n1_; clear hg hw hp_))
                                            repeat (go_quiet (first | ((with_reducible refine gate_store (t := 42) (p := 77) rfl ?_); (try (rw [drewN_self wc]; generalize hq_ : World.drewN wc _ = wc; have n0_ := Aside0.mk (Kd.R_at hq_ HO184.out); have n1_ := Aside0.mk (below_at hq_ HB.out); clear hq_ HO184 HB; have HO184 := n0_; have HB := n1_; clear n0_ n1_; (try (have HP51 := Kd.R_putg HO184.out ((ji29) : Int) (Go.bits .or .u64 (Go.bits .xor .u64 18446744073709551615 (rd x4_1 (ji29))) (rd x4_1 (ji32))))); (try (obtain ⟨hx49_0, hf49_0⟩ := Kd.R_celln 0 HO184.out ((ji29) : Int) (of_eq_true p49) (of_eq_true q49))))); refine store_event (t := 42) (p := 77) (v := ?vo_w52) (w1 := (wc.setCell ⟨go49, ((ji29) : Int).toNat, none⟩ (.int .u64 (Go.bits .or .u64 (Go.bits .xor .u64 18446744073709551615 (rd x4_1 (ji29))) (rd x4_1 (ji32)))))) ?hg ?ho ?hn ?hr ?_; (case ho => rfl); (case hg => rfl); (case hn => rfl); (case hr => first | (go_simp; done) | (go_simp; rfl)); intro w52 hw; have hg : wc.grownBy w52 (some go49) := (by rw [hw]; exact HP51.2); have hp_ : Kd.R (Kd.int .u64) 42 w52 w.heap.size (fun _ => True) (.slice (some ⟨go49, 0, none⟩) y182.length co16) y187 := (by rw [hw, Ny187.out]; exact HP51.1); clear HP51; have n0_ := Aside0.mk (hp_); have n1_ := Aside0.mk ((by rw [hw]; exact below_set (HB.out) GB49.out : Below w.heap.size w w52)); clear HO184; clear HB; have HO184 := n0_; have HB := n1_; clear n0_ n1_; clear hg hw hp_)); try go_wp2_with (first | ((with_reducible refine gate_store (t := 42) (p := 77) rfl ?_); (try (rw [drewN_self wc]; generalize hq_ : World.drewN wc _ = wc; have n0_ := Aside0.mk (Kd.R_at hq_ HO184.out); have n1_ := Aside0.mk (below_at hq_ HB.out); clear hq_ HO184 HB; have HO184 := n0_; have HB := n1_; clear n0_ n1_; (try (have HP51 := Kd.R_putg HO184.out ((ji29) : Int) (Go.bits .or .u64 (Go.bits .xor .u64 18446744073709551615 (rd x4_1 (ji29))) (rd x4_1 (ji32))))); (try (obtain ⟨hx49_0, hf49_0⟩ := Kd.R_celln 0 HO184.out ((ji29) : Int) (of_eq_true p49) (of_eq_true q49))))); refine store_event (t := 42) (p := 77) (v := ?vo_w52) (w1 := (wc.setCell ⟨go49, ((ji29) : Int).toNat, none⟩ (.int .u64 (Go.bits .or .u64 (Go.bits .xor .u64 18446744073709551615 (rd x4_1 (ji29))) (rd x4_1 (ji32)))))) ?hg ?ho ?hn ?hr ?_; (case ho => rfl); (case hg => rfl); (case hn => rfl); (case hr => first | (go_simp; done) | (go_simp; rfl)); intro w52 hw; have hg : wc.grownBy w52 (some go49) := (by rw [hw]; exact HP51.2); have hp_ : Kd.R (Kd.int .u64) 42 w52 w.heap.size (fun _ => True) (.slice (some ⟨go49, 0, none⟩) y182.length co16) y187 := (by rw [hw, Ny187.out]; exact HP51.1); clear HP51; have n0_ := Aside0.mk (hp_); have n1_ := Aside0.mk ((by rw [hw]; exact below_set (HB.out) GB49.out : Below w.heap.size w w52)); clear HO184; clear HB; have HO184 := n0_; have HB := n1_; clear n0_ n1_; clear hg hw hp_)))
                                            go_roundg kj24
                                            case measure => have := HK1.out; have := HJ14.out; have := HJ24.out; omega
                                            case rel => exact ⟨(y187), (wrap64 (x17_1 + 1)), (by first | rfl | (simp; done) | (simp [*]; done)), H', ⟨by have := HK1.out; have := HJ14.out; have := HJ24.out; omega⟩, ⟨by (with_reducible repeat (first | apply Kd.R_alloc | apply Kd.R_drewN | apply Kd.R_drew)); exact HO184.out⟩, ⟨by repeat (first | (with_reducible first | exact HB.out | apply below_alloc | apply pw_below_drewN | apply below_drew1) | exact HB.out)⟩⟩
                                          · rw [if_neg c48] at H
                                            exact absurd H (by simp)
                                    · rw [if_neg c35] at H
                                      exact absurd H (by simp)
                                  · rw [if_neg c34] at H
                                    exact absurd H (by simp)
                                · rw [if_neg c33] at H
                                  exact absurd H (by simp)
                              · rw [if_neg c31] at H
                                exact absurd H (by simp)
                            · rw [if_neg c30] at H
                              exact absurd H (by simp)
                          · replace c28 := Bool.eq_false_iff.mpr c28
                            subst c28
                            have H1 : (some (0, false)) = some (r1, r2) := by rw [if_neg (show ¬ (false = true) by decide)] at H; exact H
                            clear H
                            have H := H1
                            clear H1
                            simp only [Option.some.injEq, Prod.mk.injEq] at H
                            obtain ⟨rfl, rfl⟩ := H
                            go_wp2
                            repeat (go_quiet (fail); try go_wp2)
                            go_ret2
                            exact ⟨by first | rfl | (simp [errW_none, errW_some] <;> rfl) | (simp [*, errW_none, errW_some] <;> rfl), by repeat (first | (with_reducible first | exact HB.out | apply below_alloc | apply pw_below_drewN | apply below_drew1) | exact HB.out)⟩
            · rw [if_neg c8] at H
              exact absurd H (by simp)
          · rw [if_neg c7] at H
            exact absurd H (by simp)
        · rw [if_neg c6] at H
          have c6b0 : decide (x17_1 < (l0.length : Int)) = false := decide_eq_false c6
          clear c6
          by_cases c53 : 0 < (x4_1.length : Int)
          · rw [if_pos c53] at H
            have c53b0 : decide (0 < (x4_1.length : Int)) = true := decide_eq_true c53
            have c53b1 : decide (0 < x4_1.length) = true := decide_eq_true (by omega)
            clear c53
            simp only [Option.some.injEq, Prod.mk.injEq] at H
            obtain ⟨rfl, rfl⟩ := H
            obtain ⟨Ao54, co54, eo54⟩ := Kd.R_slice HO_4.out
            subst eo54
            have p170 : 0 ≤ (0 : Int) := (by omega)
            have q170 : 0 < (x4_1.length : Int) := of_decide_eq_true (by first | (with_reducible assumption) | assumption)
            obtain ⟨ad170, e170, hx170_0⟩ := Kd.at_int (Kd.R_reads' HO_4.out).2.2 0 p170 q170
            cases e170
            have qi170 : (0 < x4_1.length) = True := eq_true (by omega)
            (try rw [show ((0 : Int)).toNat = 0 from rfl] at hx170_0)
            (try rw [Addr.add_zero'] at hx170_0)
            replace p170 := eq_true p170
            replace q170 := eq_true q170
            go_wp2
            repeat (go_quiet (fail); try go_wp2)
            go_ret2
            exact ⟨by first | rfl | (simp [errW_none, errW_some] <;> rfl) | (simp [*, errW_none, errW_some] <;> rfl), by repeat (first | (with_reducible first | exact HB.out | apply below_alloc | apply pw_below_drewN | apply below_drew1) | exact HB.out)⟩
          · rw [if_neg c53] at H
            exact absurd H (by simp)
  · replace c3 := Bool.eq_false_iff.mpr c3
    subst c3
    have H1 : (some (0, false)) = some (r1, r2) := by rw [if_neg (show ¬ (false = true) by decide)] at H; exact H
    clear H
    have H := H1
    clear H1
    simp only [Option.some.injEq, Prod.mk.injEq] at H
    obtain ⟨rfl, rfl⟩ := H
    go_enter Try.func46, Try.ntmps46
    go_wp2_with (first | (go_at_call 50; (with_reducible refine (impl_InRange.calls (l0.length : Int) 1 24 false _ A2.out).mono ?_); rintro e w' ⟨rfl, ⟨nd, rfl⟩⟩; (try first | exact ⟨rfl, _, World.drewN_drewN _ _ _⟩ | exact ⟨rfl, _, Eq.trans (World.drewN_drewN _ _ _) (congrArg (World.drewN _) (Nat.add_assoc _ _ _))⟩)))
    repeat (go_quiet (first | (go_at_call 50; (with_reducible refine (impl_InRange.calls (l0.length : Int) 1 24 false _ A2.out).mono ?_); rintro e w' ⟨rfl, ⟨nd, rfl⟩⟩; (try first | exact ⟨rfl, _, World.drewN_drewN _ _ _⟩ | exact ⟨rfl, _, Eq.trans (World.drewN_drewN _ _ _) (congrArg (World.drewN _) (Nat.add_assoc _ _ _))⟩))); try go_wp2_with (first | (go_at_call 50; (with_reducible refine (impl_InRange.calls (l0.length : Int) 1 24 false _ A2.out).mono ?_); rintro e w' ⟨rfl, ⟨nd, rfl⟩⟩; (try first | exact ⟨rfl, _, World.drewN_drewN _ _ _⟩ | exact ⟨rfl, _, Eq.trans (World.drewN_drewN _ _ _) (congrArg (World.drewN _) (Nat.add_assoc _ _ _))⟩))))
    go_ret2
    exact ⟨by first | rfl | (simp [errW_none, errW_some] <;> rfl) | (simp [*, errW_none, errW_some] <;> rfl), by repeat (first | (with_reducible first | exact HB.out | apply below_alloc | apply pw_below_drewN | apply below_drew1) | exact HB.out)⟩

/-! ### impl_IsFormula: function 16 -/
def impl_IsFormula.f (k : Nat) (l0 : List Int) : Option (Bool) := (impl_rowsOf.f k l0).bind fun bt188 => (some bt188.2)
theorem impl_IsFormula.mono : ∀ a0 k, LeO (impl_IsFormula.f k a0) (impl_IsFormula.f (k + 1) a0) := by
  intro a0 k
  unfold impl_IsFormula.f
  repeat' first
      | (with_reducible exact impl_rowsOf.mono _ _)
      | (with_reducible exact LeO.refl _)
      | (with_reducible exact LeO.none _)
      | (with_reducible refine LeO.ite ?_ ?_)
      | (with_reducible refine LeO.bind ?_ (fun _ => ?_))
      | exact impl_rowsOf.mono _ _
      | exact LeO.none _
      | refine LeO.ite ?_ ?_
      | refine LeO.bind ?_ (fun _ => ?_)
set_option maxHeartbeats 8000000 in
set_option maxRecDepth 100000 in
theorem impl_IsFormula.calls (k : Nat) (A0 : Option Addr) (c0 : Nat) (l0 : List Int) (r : Bool) (w : World) (hr0 : Kd.C (Kd.int .i64) w A0 l0.length l0) (hc0 : l0.length ≤ c0) (h : impl_IsFormula.f k l0 = some r) :
    Calls Try.prog 16 #[.slice A0 l0.length c0] w fun e w' => e = .returned (.bool r) ∧ Below w.heap.size w w' := by
  have HR0 := Aside0.mk hr0
  have HC0 := Aside0.mk hc0
  clear hr0 hc0
  have HB := Aside0.mk (Below.refl w.heap.size w)
  have H : ((impl_rowsOf.f k l0).bind fun bt188 => (some bt188.2)) = some r := h
  clear h
  replace H := Option.bind_eq_some_iff.mp H
  obtain ⟨⟨t188, t189⟩, A20, H⟩ := H
  replace H : (some t189) = some r := H
  have A2 := Aside0.mk A20
  clear A20
  obtain rfl := Option.some.inj H
  go_enter Try.func16, Try.ntmps16
  go_wp2_with (first | ((with_reducible refine gate_callee (f := 46) rfl ?_); refine goesL_ (some 7) rfl rfl Try.func46 (by kernel_rfl) rfl #[.slice A0 l0.length c0] rfl (by (try simp only [List.map_toArray, List.map_cons, List.map_nil]); first | done | rfl | (simp only [List.length_drop, List.length_take]; rfl)) ?_; (with_reducible refine (impl_rowsOf.calls k _ _ l0 t188 t189 _ ?side1 ?side2 A2.out).mono ?_); (case side1 => repeat (first | exact HR0.out | (with_reducible refine Kd.C_alloc ?_ _) | (with_reducible refine Kd.C_drewN ?_ _) | (with_reducible refine Kd.C_drew ?_))); (case side2 => exact HC0.out); rintro e w3 ⟨rfl, hb⟩; refine ⟨_, rfl, ?_⟩; have n0_ := Aside0.mk (below_step (by repeat (first | (with_reducible first | exact HB.out | apply below_alloc | apply pw_below_drewN | apply below_drew1) | exact HB.out)) hb); clear HB; have HB := n0_; clear n0_; (try clear hb); (try clear hb2); (try clear hk); (try clear hi)))
  go_ret
  exact ⟨by first | rfl | (simp [errW_none, errW_some] <;> rfl) | (simp [*, errW_none, errW_some] <;> rfl), by repeat (first | (with_reducible first | exact HB.out | apply below_alloc | apply pw_below_drewN | apply below_drew1) | exact HB.out)⟩

/-! ### slices_Sort_int_int: function 57 -/
/-- slices.Sort of ints: the row holds the same numbers, in order. -/
def sorted_ (l : List Int) : List Int := l.mergeSort fun x y => decide (x ≤ y)
theorem sorted_nil : sorted_ [] = [] := by simp [sorted_]
theorem sorted_len (l : List Int) : (sorted_ l).length = l.length := List.length_mergeSort ..
def slices_Sort_int_int.f (l0 : List Int) : Option (List Int) := if l0.length < 4611686018427387904 then some (sorted_ l0) else none
theorem holds_ints {w : World} {e base : Nat} {ok : Nat → Prop} {g cap : Nat} {xs : List Int} (h : Kd.R (Kd.int .i64) e w base ok (.slice (some ⟨g, 0, none⟩) xs.length cap) xs) : Go.Sort.Holds (Value.int .i64) w g 0 xs.toArray := by
  intro j hj
  have hj' : j < xs.length := by simpa using hj
  have h1 := Kd.R_cell (0 : Int) h (j : Int) (by omega) (by omega)
  refine ⟨?_, ?_⟩
  · rw [Nat.zero_add]
    refine h1.1.trans ?_
    simp [rdOf, hj']
  · rw [Nat.zero_add]
    exact h1.2
theorem ints_put {w : World} {base : Nat} {ok : Nat → Prop} {g cap n : Nat} {os : Array Obj} {xs ys : List Int} (h : Kd.R (Kd.int .i64) 3 w base ok (.slice (some ⟨g, 0, none⟩) xs.length cap) xs) (hl : ys.length = xs.length) :
    Kd.R (Kd.int .i64) 3 (Go.Sort.grow (Go.Sort.putRow (Value.int .i64) (Go.Sort.ahead w n) g 0 ys.toArray) os) base ok (.slice (some ⟨g, 0, none⟩) xs.length cap) ys := by
  have ho := Kd.own_of_R h
  rcases ho.2 with ⟨he, _⟩ | ⟨g2, cap2, cur, he, hb, hh, hnc, hcm, hcs, ht⟩
  · exact absurd he (by simp)
  · injection he with e1 e2 e3
    injection e1 with e1
    injection e1 with e1
    subst e1
    subst e3
    exact Kd.R_of_own (by have h2 := ownsRow_sortedI (n := n) (os := os) hl hb hh hnc hcm hcs; rw [hl]; exact h2) h.1
set_option maxHeartbeats 8000000 in
set_option maxRecDepth 100000 in
theorem slices_Sort_int_int.calls (P0_ : Nat → Prop) (u9000_ : Value) (l0 : List Int) (r1 : List Int) (w0 w : World) (hB : Below w0.heap.size w0 w) (ho0 : Kd.R (Kd.int .i64) 3 w w0.heap.size P0_ u9000_ l0) (h : slices_Sort_int_int.f l0 = some r1) :
    Calls Try.prog 57 #[u9000_] w fun e w' => e = .returned (.tuple #[]) ∧ Kd.R (Kd.int .i64) 3 w' w0.heap.size (fun k_ => (P0_ k_ ∨ w.heap.size ≤ k_)) u9000_ r1 ∧ Below w0.heap.size w0 w' ∧ Kept w w' (fun k_ => P0_ k_) := by
  unfold slices_Sort_int_int.f at h
  by_cases hl : l0.length < 4611686018427387904
  · rw [if_pos hl] at h
    obtain rfl := Option.some.inj h
    by_cases h0 : 0 < l0.length
    · obtain ⟨g, cap, rfl, hbg, hgl, cells, hc⟩ := Kd.R_form ho0 h0
      refine (YtbiieeldfnjogaaSh.sort_calls g 0 cap l0 w (holds_ints ho0) hgl hl).mono ?_
      rintro e w' ⟨rfl, n, os, rfl⟩
      have hg : w.grownBy _ (some g) := grownBy_sortedI (n := n) (os := os) (sorted_ l0).toArray
      refine ⟨rfl, Kd.R_mono (ints_put ho0 (sorted_len l0)) (fun k hk => .inl hk), hB.grown hg hB.size (by intro k hk; injection hk with hk; omega), Kept.of_grown hg (Kept.refl w _) (by intro k hk; injection hk with hk; subst hk; exact .inl (ho0.1 _ rfl))⟩
    · obtain rfl := List.eq_nil_of_length_eq_zero (show l0.length = 0 by omega)
      obtain ⟨A, c, rfl⟩ := Kd.R_slice ho0
      refine (YtbiieeldfnjogaaSh.sort_none A c w).mono ?_
      rintro e w' ⟨rfl, rfl⟩
      exact ⟨rfl, by rw [sorted_nil]; exact Kd.R_mono ho0 (fun k hk => .inl hk), hB, Kept.refl _ _⟩
  · rw [if_neg hl] at h
    exact absurd h (by simp)

/-! ### slices_Compact_int_int: function 58 -/
/-- slices.Compact of ints: the row handed back, shorter. -/
def slices_Compact_int_int.f (l0 : List Int) : Option (List Int) := some (Go.Lib.compact l0)
theorem compact_le (l : List Int) : (Go.Lib.compact l).length ≤ l.length := by
  unfold Go.Lib.compact Go.Lib.compactUpTo
  rw [List.length_map]
  exact Nat.le_trans (List.length_filter_le _ _) (by simp)
theorem R_shorter {w : World} {base : Nat} {ok : Nat → Prop} {g n cap : Nat} {xs ys : List Int} (h : Kd.R (Kd.int .i64) 3 w base ok (.slice (some ⟨g, 0, none⟩) n cap) (xs ++ ys)) : Kd.R (Kd.int .i64) 3 w base ok (.slice (some ⟨g, 0, none⟩) xs.length cap) xs := by
  have ho := Kd.own_of_R h
  rcases ho.2 with ⟨he, _⟩ | ⟨g2, cap2, cur, he, hb, hh, hnc, hcm, hcs, ht⟩
  · exact absurd he (by simp)
  · injection he with e1 e2 e3
    injection e1 with e1
    injection e1 with e1
    subst e1
    subst e3
    unfold encs at ht
    refine Kd.R_of_own ⟨by simp [encs], .inr ⟨g, cap, cur, rfl, hb, hh, ?_, hcm, hcs, ?_⟩⟩ h.1
    · rw [List.length_append] at hnc
      omega
    · have h2 := congrArg (List.take xs.length) ht
      rw [List.take_take, Nat.mul_one, Nat.min_eq_left (by rw [List.length_append]; omega), List.map_append, List.take_append_of_le_length (by simp), List.take_of_length_le (l := xs.map (Value.int .i64)) (by simp)] at h2
      rw [Nat.mul_one]
      unfold encs
      exact h2
set_option maxHeartbeats 8000000 in
set_option maxRecDepth 100000 in
theorem slices_Compact_int_int.calls (P0_ : Nat → Prop) (u9000_ : Value) (l0 : List Int) (r : List Int) (w0 w : World) (hB : Below w0.heap.size w0 w) (ho0 : Kd.R (Kd.int .i64) 3 w w0.heap.size P0_ u9000_ l0) (h : slices_Compact_int_int.f l0 = some r) :
    Calls Try.prog 58 #[u9000_] w fun e w' => ∃ v0_ : Value, e = .returned v0_ ∧ Kd.R (Kd.int .i64) 3 w' w0.heap.size (fun k_ => (P0_ k_ ∨ w.heap.size ≤ k_)) v0_ r ∧ Below w0.heap.size w0 w' ∧ Kept w w' (fun k_ => P0_ k_) := by
  obtain rfl := Option.some.inj h
  by_cases h0 : 0 < l0.length
  · obtain ⟨g, cap, rfl, hbg, hgl, cells, hc⟩ := Kd.R_form ho0 h0
    have hn := (Kd.R_reads' ho0).2.1
    have hm : l0.length ≤ 9223372036854775807 := (Kd.R_reads' ho0).2.2.2.1
    refine (YtbiieeldfnjogaaSh.compact_calls g 0 cap l0 w (holds_ints ho0) hm hn).mono ?_
    rintro e w' ⟨rfl, q, hw⟩
    have hle := compact_le l0
    have hl : (Go.Lib.compact l0 ++ List.replicate (l0.length - (Go.Lib.compact l0).length) 0).length = l0.length := by
      rw [List.length_append, List.length_replicate]
      omega
    have hw2 : w' = Go.Sort.grow (Go.Sort.putRow (Value.int .i64) (Go.Sort.ahead w q) g 0 (Go.Lib.compact l0 ++ List.replicate (l0.length - (Go.Lib.compact l0).length) 0).toArray) #[] := by rw [hw, Go.Sort.grow_empty]
    subst hw2
    have hg : w.grownBy _ (some g) := grownBy_sortedI (n := q) (os := #[]) (Go.Lib.compact l0 ++ List.replicate (l0.length - (Go.Lib.compact l0).length) 0).toArray
    refine ⟨_, rfl, Kd.R_mono (R_shorter (ints_put ho0 hl)) (fun k hk => .inl hk), hB.grown hg hB.size (by intro k hk; injection hk with hk; omega), Kept.of_grown hg (Kept.refl w _) (by intro k hk; injection hk with hk; subst hk; exact .inl (ho0.1 _ rfl))⟩
  · obtain rfl := List.eq_nil_of_length_eq_zero (show l0.length = 0 by omega)
    obtain ⟨A, c, rfl⟩ := Kd.R_slice ho0
    refine (YtbiieeldfnjogaaSh.compact_none A c w).mono ?_
    rintro e w' ⟨rfl, rfl⟩
    exact ⟨_, rfl, Kd.R_mono ho0 (fun k hk => .inl hk), hB, Kept.refl _ _⟩

end Go.Proofs.Ytbiieeldfnjogaa.PFnExactLettersIn
