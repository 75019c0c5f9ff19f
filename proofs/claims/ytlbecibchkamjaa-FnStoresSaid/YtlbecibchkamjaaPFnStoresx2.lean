-- Written by a program of this session (hooks of mine on the print): Lean checks it.
import Derived.Test.YtlbecibchkamjaaPFnStoresx0
import Derived.Test.YtlbecibchkamjaaPFnStoresx1
namespace Go.Proofs.Ytlbecibchkamjaa.PFnStores
open Go.RowKit Go.Proofs.YtlbecibchkamjaaW.PrintWords Go.Proofs.YtlbecibchkamjaaW.PrintLast Go.Proofs.YtlbecibchkamjaaW.PrintMore
attribute [local go_sem] max2_int min2_int max_two min_two max_three min_three max_four min_four   -- for this text's walks alone
set_option linter.unusedVariables false
set_option linter.unusedSimpArgs false

/-! ### impl_rowsOf: function 61 -/
mutual
def impl_rowsOf.l0 : Nat → List Int → List Int → Int → Int → Option (Int × Bool)
 | 0, _, _, _, _ => none
 | k + 1, x4, x15, x16, x17 => if x17 < x16 then (if 0 ≤ x17 then (if x17 < (x15.length : Int) then ((impl_InRange.f (rd x15 x17) 0 5).bind fun t117 => (if t117 = true then ((impl_letterRows.f k (rd x15 x17)).bind fun t118 => (if x4.length < 17592186044416 then (impl_rowsOf.l0 k (x4 ++ [t118]) x15 x16 (wrap64 (x17 + 1))) else (none))) else (if (rd x15 x17) = (-1) then (impl_rowsOf.j1 k x4 (rd x15 x17) (x4.length : Int) x15 x16 x17 (decide ((x4.length : Int) ≥ 1))) else (impl_rowsOf.j1 k x4 (rd x15 x17) (x4.length : Int) x15 x16 x17 false)))) else (none)) else (none)) else (if 0 < (x4.length : Int) then (some (rd x4 0, ((x4.length : Int) == 1))) else (none))
def impl_rowsOf.j1 : Nat → List Int → Int → Int → List Int → Int → Int → Bool → Option (Int × Bool)
 | 0, _, _, _, _, _, _, _ => none
 | k + 1, x4, x6, x7, x15, x16, x17, x31 => if x31 = true then (if 0 ≤ (wrap64 (x7 - 1)) then (if (wrap64 (x7 - 1)) < (x4.length : Int) then (impl_rowsOf.l0 k (x4.set ((wrap64 (x7 - 1)) : Int).toNat (Go.bits .xor .u64 18446744073709551615 (rd x4 (wrap64 (x7 - 1))))) x15 x16 (wrap64 (x17 + 1))) else (none)) else (none)) else ((impl_InRange.f x6 (-4) (-2)).bind fun t124 => (if t124 = true then (impl_rowsOf.j2 k x4 x6 x7 x15 x16 x17 (decide (x7 ≥ 2))) else (impl_rowsOf.j2 k x4 x6 x7 x15 x16 x17 false)))
def impl_rowsOf.j2 : Nat → List Int → Int → Int → List Int → Int → Int → Bool → Option (Int × Bool)
 | 0, _, _, _, _, _, _, _ => none
 | k + 1, x4, x6, x7, x15, x16, x17, x48 => if x48 = true then (if 0 ≤ (wrap64 (x7 - 2)) then (if (wrap64 (x7 - 2)) < (x4.length : Int) then (if 0 ≤ (wrap64 (x7 - 1)) then (if (wrap64 (x7 - 1)) < (x4.length : Int) then (if (wrap64 (x7 - 1)) ≤ (x4.length : Int) then ((some (x4.take ((wrap64 (x7 - 1)) : Int).toNat : List Int)).bind fun y127 => (if x6 = (-2) then (if (wrap64 (x7 - 2)) < (y127.length : Int) then (impl_rowsOf.l0 k (y127.set ((wrap64 (x7 - 2)) : Int).toNat (Go.bits .and .u64 (rd x4 (wrap64 (x7 - 2))) (rd x4 (wrap64 (x7 - 1))))) x15 x16 (wrap64 (x17 + 1))) else (none)) else (if x6 = (-3) then (if (wrap64 (x7 - 2)) < (y127.length : Int) then (impl_rowsOf.l0 k (y127.set ((wrap64 (x7 - 2)) : Int).toNat (Go.bits .or .u64 (rd x4 (wrap64 (x7 - 2))) (rd x4 (wrap64 (x7 - 1))))) x15 x16 (wrap64 (x17 + 1))) else (none)) else (if (wrap64 (x7 - 2)) < (y127.length : Int) then (impl_rowsOf.l0 k (y127.set ((wrap64 (x7 - 2)) : Int).toNat (Go.bits .or .u64 (Go.bits .xor .u64 18446744073709551615 (rd x4 (wrap64 (x7 - 2)))) (rd x4 (wrap64 (x7 - 1))))) x15 x16 (wrap64 (x17 + 1))) else (none))))) else (none)) else (none)) else (none)) else (none)) else (none)) else (some (0, false))
end
def impl_rowsOf.f (k : Nat) (l0 : List Int) : Option (Int × Bool) := (impl_InRange.f (l0.length : Int) 1 24).bind fun t111 => (if t111 = true then (impl_rowsOf.l0 k (([] : List Int)) l0 (l0.length : Int) 0) else (some (0, false)))
theorem impl_rowsOf.mono_l : ∀ k, (∀ y0 y1 y2 y3, LeO (impl_rowsOf.l0 k y0 y1 y2 y3) (impl_rowsOf.l0 (k + 1) y0 y1 y2 y3)) ∧ (∀ y0 y1 y2 y3 y4 y5 y6, LeO (impl_rowsOf.j1 k y0 y1 y2 y3 y4 y5 y6) (impl_rowsOf.j1 (k + 1) y0 y1 y2 y3 y4 y5 y6)) ∧ (∀ y0 y1 y2 y3 y4 y5 y6, LeO (impl_rowsOf.j2 k y0 y1 y2 y3 y4 y5 y6) (impl_rowsOf.j2 (k + 1) y0 y1 y2 y3 y4 y5 y6))
 | 0 => ⟨fun _ _ _ _ r h => by simp [impl_rowsOf.l0] at h, fun _ _ _ _ _ _ _ r h => by simp [impl_rowsOf.j1] at h, fun _ _ _ _ _ _ _ r h => by simp [impl_rowsOf.j2] at h⟩
 | k + 1 => by
  obtain ⟨ih0, ih1, ih2⟩ := impl_rowsOf.mono_l k
  refine ⟨?_, ?_, ?_⟩
  ·intro y0 y1 y2 y3
   unfold impl_rowsOf.l0
   repeat' first
   | (with_reducible exact ih0 _ _ _ _)
   | (with_reducible exact ih1 _ _ _ _ _ _ _)
   | (with_reducible exact ih2 _ _ _ _ _ _ _)
   | (with_reducible exact impl_letterRows.mono _ _)
   | (with_reducible exact LeO.refl _)
   | (with_reducible exact LeO.none _)
   | (with_reducible refine LeO.ite ?_ ?_)
   | (with_reducible refine LeO.bind ?_ (fun _ => ?_))
   | exact ih0 _ _ _ _
   | exact ih1 _ _ _ _ _ _ _
   | exact ih2 _ _ _ _ _ _ _
   | exact impl_letterRows.mono _ _
   | exact LeO.none _
   | refine LeO.ite ?_ ?_
   | refine LeO.bind ?_ (fun _ => ?_)
  ·intro y0 y1 y2 y3 y4 y5 y6
   unfold impl_rowsOf.j1
   repeat' first
   | (with_reducible exact ih0 _ _ _ _)
   | (with_reducible exact ih1 _ _ _ _ _ _ _)
   | (with_reducible exact ih2 _ _ _ _ _ _ _)
   | (with_reducible exact impl_letterRows.mono _ _)
   | (with_reducible exact LeO.refl _)
   | (with_reducible exact LeO.none _)
   | (with_reducible refine LeO.ite ?_ ?_)
   | (with_reducible refine LeO.bind ?_ (fun _ => ?_))
   | exact ih0 _ _ _ _
   | exact ih1 _ _ _ _ _ _ _
   | exact ih2 _ _ _ _ _ _ _
   | exact impl_letterRows.mono _ _
   | exact LeO.none _
   | refine LeO.ite ?_ ?_
   | refine LeO.bind ?_ (fun _ => ?_)
  ·intro y0 y1 y2 y3 y4 y5 y6
   unfold impl_rowsOf.j2
   repeat' first
   | (with_reducible exact ih0 _ _ _ _)
   | (with_reducible exact ih1 _ _ _ _ _ _ _)
   | (with_reducible exact ih2 _ _ _ _ _ _ _)
   | (with_reducible exact impl_letterRows.mono _ _)
   | (with_reducible exact LeO.refl _)
   | (with_reducible exact LeO.none _)
   | (with_reducible refine LeO.ite ?_ ?_)
   | (with_reducible refine LeO.bind ?_ (fun _ => ?_))
   | exact ih0 _ _ _ _
   | exact ih1 _ _ _ _ _ _ _
   | exact ih2 _ _ _ _ _ _ _
   | exact impl_letterRows.mono _ _
   | exact LeO.none _
   | refine LeO.ite ?_ ?_
   | refine LeO.bind ?_ (fun _ => ?_)
theorem impl_rowsOf.mono : ∀ a0 k, LeO (impl_rowsOf.f k a0) (impl_rowsOf.f (k + 1) a0) := by
 intro a0 k
 obtain ⟨ih0, ih1, ih2⟩ := impl_rowsOf.mono_l k
 unfold impl_rowsOf.f
 repeat' first
   | (with_reducible exact ih0 _ _ _ _)
   | (with_reducible exact ih1 _ _ _ _ _ _ _)
   | (with_reducible exact ih2 _ _ _ _ _ _ _)
   | (with_reducible exact impl_letterRows.mono _ _)
   | (with_reducible exact LeO.refl _)
   | (with_reducible exact LeO.none _)
   | (with_reducible refine LeO.ite ?_ ?_)
   | (with_reducible refine LeO.bind ?_ (fun _ => ?_))
   | exact ih0 _ _ _ _
   | exact ih1 _ _ _ _ _ _ _
   | exact ih2 _ _ _ _ _ _ _
   | exact impl_letterRows.mono _ _
   | exact LeO.none _
   | refine LeO.ite ?_ ?_
   | refine LeO.bind ?_ (fun _ => ?_)
set_option maxHeartbeats 8000000 in
set_option maxRecDepth 100000 in
theorem impl_rowsOf.calls (k : Nat) (A0 : Option Addr) (c0 : Nat) (l0 : List Int) (r1 : Int) (r2 : Bool) (w : World) (hr0 : Kd.C (Kd.int .i64) w A0 l0.length l0) (hc0 : l0.length ≤ c0) (h : impl_rowsOf.f k l0 = some (r1, r2)) :
  Calls Try.prog 61 #[.slice A0 l0.length c0] w fun e w' => e = .returned (.tuple #[.int .u64 r1, .bool r2]) ∧ Below w.heap.size w w' := by
 have HR0 := Aside0.mk hr0
 have HC0 := Aside0.mk hc0
 clear hr0 hc0
 have HB := Aside0.mk (Below.refl w.heap.size w)
 have H : ((impl_InRange.f (l0.length : Int) 1 24).bind fun t111 => (if t111 = true then (impl_rowsOf.l0 k (([] : List Int)) l0 (l0.length : Int) 0) else (some (0, false)))) = some (r1, r2) := h
 clear h
 replace H := Option.bind_eq_some_iff.mp H
 obtain ⟨t111, A20, H⟩ := H
 replace H : (if t111 = true then (impl_rowsOf.l0 k (([] : List Int)) l0 (l0.length : Int) 0) else (some (0, false))) = some (r1, r2) := H
 have A2 := Aside0.mk A20
 clear A20
 by_cases c3 : t111 = true
 ·subst c3
  have H1 : (impl_rowsOf.l0 k (([] : List Int)) l0 (l0.length : Int) 0) = some (r1, r2) := by rw [if_pos rfl] at H; exact H
  clear H
  have H := H1
  clear H1
  obtain ⟨y112, hy112⟩ : ∃ y_ : List Int, y_ = (([] : List Int)) := ⟨_, rfl⟩
  replace H : (impl_rowsOf.l0 k y112 l0 (l0.length : Int) 0) = some (r1, r2) := by first | (rw [hy112]; with_reducible exact H) | (have H2_ := (Option.bind_some _ _).symm.trans H; rw [hy112]; with_reducible exact H2_) | (have H2_ := (Option.bind_some _ _).symm.trans H; with_reducible exact H2_) | with_reducible exact H | (rw [hy112]; exact H) | exact H
  have Ny112 := Aside0.mk hy112
  clear hy112
  have H' := Aside0.mk H
  clear H
  go_enter Try.func61, Try.ntmps61
  go_wp2_with (first | (go_at_call 73; (with_reducible refine (impl_InRange.calls (l0.length : Int) 1 24 true _ A2.out).mono ?_); rintro e w' ⟨rfl, ⟨nd, rfl⟩⟩; (try first | exact ⟨rfl, _, World.drewN_drewN _ _ _⟩ | exact ⟨rfl, _, Eq.trans (World.drewN_drewN _ _ _) (congrArg (World.drewN _) (Nat.add_assoc _ _ _))⟩)) | ((with_reducible refine gate_dst (N := 14) rfl ?_); refine Kd.R_lit (Kd.int .u64) _ 53 ?hg (N := 14) ?hd (xs := ([] : List Int)) (inner := []) (ok := fun _ => True) (okp := fun _ => True) ?hr ?hp (fun _ hk => hk) trivial (Below.refl _ _) (Nat.le_refl _) (by simp) ?_; (case hd => rfl); (case hg => rfl); (case hr => first | (go_simp; done) | (go_simp; rfl)); (case hp => exact (Reps.none _ _)); intro v113 w4 ho5 hb hg_ hnew_; clear hg_ hnew_; (first | rw [← Ny112.out] at ho5 | (simp only [Int.reduceToNat] at ho5; rw [← Ny112.out] at ho5)); have n0_ := Aside0.mk (Kd.R_lower ho5 (below_size (by repeat (first | (with_reducible first | exact HB.out | apply below_alloc | apply pw_below_drewN | apply below_drew1) | exact HB.out)))); have n1_ := Aside0.mk (below_step (by repeat (first | (with_reducible first | exact HB.out | apply below_alloc | apply pw_below_drewN | apply below_drew1) | exact HB.out)) hb); clear HB; have HO114 := n0_; have HB := n1_; clear n0_ n1_; clear hb ho5))
  repeat (go_quiet (first | (go_at_call 73; (with_reducible refine (impl_InRange.calls (l0.length : Int) 1 24 true _ A2.out).mono ?_); rintro e w' ⟨rfl, ⟨nd, rfl⟩⟩; (try first | exact ⟨rfl, _, World.drewN_drewN _ _ _⟩ | exact ⟨rfl, _, Eq.trans (World.drewN_drewN _ _ _) (congrArg (World.drewN _) (Nat.add_assoc _ _ _))⟩)) | ((with_reducible refine gate_dst (N := 14) rfl ?_); refine Kd.R_lit (Kd.int .u64) _ 53 ?hg (N := 14) ?hd (xs := ([] : List Int)) (inner := []) (ok := fun _ => True) (okp := fun _ => True) ?hr ?hp (fun _ hk => hk) trivial (Below.refl _ _) (Nat.le_refl _) (by simp) ?_; (case hd => rfl); (case hg => rfl); (case hr => first | (go_simp; done) | (go_simp; rfl)); (case hp => exact (Reps.none _ _)); intro v113 w4 ho5 hb hg_ hnew_; clear hg_ hnew_; (first | rw [← Ny112.out] at ho5 | (simp only [Int.reduceToNat] at ho5; rw [← Ny112.out] at ho5)); have n0_ := Aside0.mk (Kd.R_lower ho5 (below_size (by repeat (first | (with_reducible first | exact HB.out | apply below_alloc | apply pw_below_drewN | apply below_drew1) | exact HB.out)))); have n1_ := Aside0.mk (below_step (by repeat (first | (with_reducible first | exact HB.out | apply below_alloc | apply pw_below_drewN | apply below_drew1) | exact HB.out)) hb); clear HB; have HO114 := n0_; have HB := n1_; clear n0_ n1_; clear hb ho5)); try go_wp2_with (first | (go_at_call 73; (with_reducible refine (impl_InRange.calls (l0.length : Int) 1 24 true _ A2.out).mono ?_); rintro e w' ⟨rfl, ⟨nd, rfl⟩⟩; (try first | exact ⟨rfl, _, World.drewN_drewN _ _ _⟩ | exact ⟨rfl, _, Eq.trans (World.drewN_drewN _ _ _) (congrArg (World.drewN _) (Nat.add_assoc _ _ _))⟩)) | ((with_reducible refine gate_dst (N := 14) rfl ?_); refine Kd.R_lit (Kd.int .u64) _ 53 ?hg (N := 14) ?hd (xs := ([] : List Int)) (inner := []) (ok := fun _ => True) (okp := fun _ => True) ?hr ?hp (fun _ hk => hk) trivial (Below.refl _ _) (Nat.le_refl _) (by simp) ?_; (case hd => rfl); (case hg => rfl); (case hr => first | (go_simp; done) | (go_simp; rfl)); (case hp => exact (Reps.none _ _)); intro v113 w4 ho5 hb hg_ hnew_; clear hg_ hnew_; (first | rw [← Ny112.out] at ho5 | (simp only [Int.reduceToNat] at ho5; rw [← Ny112.out] at ho5)); have n0_ := Aside0.mk (Kd.R_lower ho5 (below_size (by repeat (first | (with_reducible first | exact HB.out | apply below_alloc | apply pw_below_drewN | apply below_drew1) | exact HB.out)))); have n1_ := Aside0.mk (below_step (by repeat (first | (with_reducible first | exact HB.out | apply below_alloc | apply pw_below_drewN | apply below_drew1) | exact HB.out)) hb); clear HB; have HO114 := n0_; have HB := n1_; clear n0_ n1_; clear hb ho5)))
  go_loopg [4, 17] k (fun kq v4 v17 w' => ∃ (x4_1 : List Int) (x17_1 : Int), v17 = .int .i64 x17_1 ∧ Aside0 (impl_rowsOf.l0 kq x4_1 l0 (l0.length : Int) x17_1 = some (r1, r2)) ∧ Aside0 (kq ≤ k) ∧ Aside0 (Kd.R (Kd.int .u64) 53 w' w.heap.size (fun _ => True) v4 x4_1) ∧ Aside0 (Below w.heap.size w w'))
  case atStart => exact ⟨(y112), (0), (by first | rfl | (simp; done) | (simp [*]; done)), H', ⟨Nat.le_refl _⟩, ⟨by (with_reducible repeat (first | apply Kd.R_alloc | apply Kd.R_drewN | apply Kd.R_drew)); exact HO114.out⟩, ⟨by repeat (first | (with_reducible first | exact HB.out | apply below_alloc | apply pw_below_drewN | apply below_drew1) | exact HB.out)⟩⟩
  case round =>
   clear H'
   try clear p2
   try clear c3
   obtain ⟨x4_1, x17_1, rfl, HA, HK1, HO_4, HB⟩ := hrel
   cases gk with
   | zero => exact absurd HA.out (by simp [impl_rowsOf.l0])
   | succ k1 =>
    have H := HA.out
    clear HA
    simp only [impl_rowsOf.l0] at H
    by_cases c6 : x17_1 < (l0.length : Int)
    ·rw [if_pos c6] at H
     have c6b0 : decide (x17_1 < (l0.length : Int)) = true := decide_eq_true c6
     clear c6
     by_cases c7 : 0 ≤ x17_1
     ·rw [if_pos c7] at H
      have c7b0 : decide (0 ≤ x17_1) = true := decide_eq_true c7
      clear c7
      by_cases c8 : x17_1 < (l0.length : Int)
      ·rw [if_pos c8] at H
       have c8b0 : decide (x17_1 < (l0.length : Int)) = true := decide_eq_true c8
       clear c8
       replace H := Option.bind_eq_some_iff.mp H
       obtain ⟨t117, A90, H⟩ := H
       replace H : (if t117 = true then ((impl_letterRows.f k1 (rd l0 x17_1)).bind fun t118 => (if x4_1.length < 17592186044416 then (impl_rowsOf.l0 k1 (x4_1 ++ [t118]) l0 (l0.length : Int) (wrap64 (x17_1 + 1))) else (none))) else (if (rd l0 x17_1) = (-1) then (impl_rowsOf.j1 k1 x4_1 (rd l0 x17_1) (x4_1.length : Int) l0 (l0.length : Int) x17_1 (decide ((x4_1.length : Int) ≥ 1))) else (impl_rowsOf.j1 k1 x4_1 (rd l0 x17_1) (x4_1.length : Int) l0 (l0.length : Int) x17_1 false))) = some (r1, r2) := H
       have A9 := Aside0.mk A90
       clear A90
       by_cases c10 : t117 = true
       ·subst c10
        have H1 : ((impl_letterRows.f k1 (rd l0 x17_1)).bind fun t118 => (if x4_1.length < 17592186044416 then (impl_rowsOf.l0 k1 (x4_1 ++ [t118]) l0 (l0.length : Int) (wrap64 (x17_1 + 1))) else (none))) = some (r1, r2) := by rw [if_pos rfl] at H; exact H
        clear H
        have H := H1
        clear H1
        replace H := Option.bind_eq_some_iff.mp H
        obtain ⟨t118, A110, H⟩ := H
        replace H : (if x4_1.length < 17592186044416 then (impl_rowsOf.l0 k1 (x4_1 ++ [t118]) l0 (l0.length : Int) (wrap64 (x17_1 + 1))) else (none)) = some (r1, r2) := H
        have A11 := Aside0.mk A110
        clear A110
        by_cases c12 : x4_1.length < 17592186044416
        ·rw [if_pos c12] at H
         have LMc12 := Aside0.mk c12
         clear c12
         obtain ⟨y119, hy119⟩ : ∃ y_ : List Int, y_ = (x4_1 ++ [t118]) := ⟨_, rfl⟩
         replace H : (impl_rowsOf.l0 k1 y119 l0 (l0.length : Int) (wrap64 (x17_1 + 1))) = some (r1, r2) := by first | (rw [hy119]; with_reducible exact H) | (have H2_ := (Option.bind_some _ _).symm.trans H; rw [hy119]; with_reducible exact H2_) | (have H2_ := (Option.bind_some _ _).symm.trans H; with_reducible exact H2_) | with_reducible exact H | (rw [hy119]; exact H) | exact H
         have Ny119 := Aside0.mk hy119
         clear hy119
         have H' := Aside0.mk H
         clear H
         have p116 : 0 ≤ (x17_1 : Int) := of_decide_eq_true (by first | (with_reducible assumption) | assumption)
         have q116 : x17_1 < (l0.length : Int) := of_decide_eq_true (by first | (with_reducible assumption) | assumption)
         obtain ⟨ad116, e116, hx116_0⟩ := Kd.at_int HR0.out x17_1 p116 q116
         cases e116
         replace hx116_0 := (HB.out.cell (World.block_lt_of_cell? w _ hx116_0)).trans hx116_0
         replace p116 := eq_true p116
         replace q116 := eq_true q116
         obtain ⟨Ao13, co13, eo13⟩ := Kd.R_slice HO_4.out
         subst eo13
         go_wp2_with (first | (go_at_call 73; (with_reducible refine (impl_InRange.calls (rd l0 x17_1) 0 5 true _ A9.out).mono ?_); rintro e w' ⟨rfl, ⟨nd, rfl⟩⟩; (try first | exact ⟨rfl, _, World.drewN_drewN _ _ _⟩ | exact ⟨rfl, _, Eq.trans (World.drewN_drewN _ _ _) (congrArg (World.drewN _) (Nat.add_assoc _ _ _))⟩)) | (go_at_call 83; (with_reducible refine (impl_letterRows.calls k1 (rd l0 x17_1) t118 _ A11.out).mono ?_); rintro e w' ⟨rfl, ⟨nd, rfl⟩⟩; (try first | exact ⟨rfl, _, World.drewN_drewN _ _ _⟩ | exact ⟨rfl, _, Eq.trans (World.drewN_drewN _ _ _) (congrArg (World.drewN _) (Nat.add_assoc _ _ _))⟩)) | ((with_reducible refine gate_builtin (b := .append) (xs := #[.tmp 26, .tmp 29]) rfl ?_); at_builtin; refine Kd.R_append (Kd.int .u64) (w0 := w) w.heap.size rfl (.tmp 26) (.tmp 29) 74 53 (.int .u64 0) 8 rfl Try.underlying74 info53 rfl (by decide) (by omega) (.slice Ao13 x4_1.length co13) x4_1 t118 [.int .u64 t118] (fun _ => True) (fun _ => False) rfl rfl ?aP (fun _ hk => hk.elim) ?aF ?aO ?aB ?aS ?aL ?_; (case aP => exact rfl); (case aB => exact (by repeat (first | (with_reducible first | exact HB.out | apply below_alloc | apply pw_below_drewN | apply below_drew1) | exact HB.out))); (case aF => exact (fun _ _ => trivial)); (case aO => exact (by (with_reducible repeat (first | apply Kd.R_alloc | apply Kd.R_drewN | apply Kd.R_drew)); exact HO_4.out)); (case aS => exact (below_size (by repeat (first | (with_reducible first | exact HB.out | apply below_alloc | apply pw_below_drewN | apply below_drew1) | exact HB.out)))); (case aL => have := LMc12.out; omega); intro v120 w14 ho hb hg hat; rw [← Ny119.out] at ho; have n0_ := Aside0.mk (hb); have n1_ := Aside0.mk (ho); clear HB; clear HO_4; have HB := n0_; have HO121 := n1_; clear n0_ n1_; clear ho hb hg hat))
         repeat (go_quiet (first | (go_at_call 73; (with_reducible refine (impl_InRange.calls (rd l0 x17_1) 0 5 true _ A9.out).mono ?_); rintro e w' ⟨rfl, ⟨nd, rfl⟩⟩; (try first | exact ⟨rfl, _, World.drewN_drewN _ _ _⟩ | exact ⟨rfl, _, Eq.trans (World.drewN_drewN _ _ _) (congrArg (World.drewN _) (Nat.add_assoc _ _ _))⟩)) | (go_at_call 83; (with_reducible refine (impl_letterRows.calls k1 (rd l0 x17_1) t118 _ A11.out).mono ?_); rintro e w' ⟨rfl, ⟨nd, rfl⟩⟩; (try first | exact ⟨rfl, _, World.drewN_drewN _ _ _⟩ | exact ⟨rfl, _, Eq.trans (World.drewN_drewN _ _ _) (congrArg (World.drewN _) (Nat.add_assoc _ _ _))⟩)) | ((with_reducible refine gate_builtin (b := .append) (xs := #[.tmp 26, .tmp 29]) rfl ?_); at_builtin; refine Kd.R_append (Kd.int .u64) (w0 := w) w.heap.size rfl (.tmp 26) (.tmp 29) 74 53 (.int .u64 0) 8 rfl Try.underlying74 info53 rfl (by decide) (by omega) (.slice Ao13 x4_1.length co13) x4_1 t118 [.int .u64 t118] (fun _ => True) (fun _ => False) rfl rfl ?aP (fun _ hk => hk.elim) ?aF ?aO ?aB ?aS ?aL ?_; (case aP => exact rfl); (case aB => exact (by repeat (first | (with_reducible first | exact HB.out | apply below_alloc | apply pw_below_drewN | apply below_drew1) | exact HB.out))); (case aF => exact (fun _ _ => trivial)); (case aO => exact (by (with_reducible repeat (first | apply Kd.R_alloc | apply Kd.R_drewN | apply Kd.R_drew)); exact HO_4.out)); (case aS => exact (below_size (by repeat (first | (with_reducible first | exact HB.out | apply below_alloc | apply pw_below_drewN | apply below_drew1) | exact HB.out)))); (case aL => have := LMc12.out; omega); intro v120 w14 ho hb hg hat; rw [← Ny119.out] at ho; have n0_ := Aside0.mk (hb); have n1_ := Aside0.mk (ho); clear HB; clear HO_4; have HB := n0_; have HO121 := n1_; clear n0_ n1_; clear ho hb hg hat)); try go_wp2_with (first | (go_at_call 73; (with_reducible refine (impl_InRange.calls (rd l0 x17_1) 0 5 true _ A9.out).mono ?_); rintro e w' ⟨rfl, ⟨nd, rfl⟩⟩; (try first | exact ⟨rfl, _, World.drewN_drewN _ _ _⟩ | exact ⟨rfl, _, Eq.trans (World.drewN_drewN _ _ _) (congrArg (World.drewN _) (Nat.add_assoc _ _ _))⟩)) | (go_at_call 83; (with_reducible refine (impl_letterRows.calls k1 (rd l0 x17_1) t118 _ A11.out).mono ?_); rintro e w' ⟨rfl, ⟨nd, rfl⟩⟩; (try first | exact ⟨rfl, _, World.drewN_drewN _ _ _⟩ | exact ⟨rfl, _, Eq.trans (World.drewN_drewN _ _ _) (congrArg (World.drewN _) (Nat.add_assoc _ _ _))⟩)) | ((with_reducible refine gate_builtin (b := .append) (xs := #[.tmp 26, .tmp 29]) rfl ?_); at_builtin; refine Kd.R_append (Kd.int .u64) (w0 := w) w.heap.size rfl (.tmp 26) (.tmp 29) 74 53 (.int .u64 0) 8 rfl Try.underlying74 info53 rfl (by decide) (by omega) (.slice Ao13 x4_1.length co13) x4_1 t118 [.int .u64 t118] (fun _ => True) (fun _ => False) rfl rfl ?aP (fun _ hk => hk.elim) ?aF ?aO ?aB ?aS ?aL ?_; (case aP => exact rfl); (case aB => exact (by repeat (first | (with_reducible first | exact HB.out | apply below_alloc | apply pw_below_drewN | apply below_drew1) | exact HB.out))); (case aF => exact (fun _ _ => trivial)); (case aO => exact (by (with_reducible repeat (first | apply Kd.R_alloc | apply Kd.R_drewN | apply Kd.R_drew)); exact HO_4.out)); (case aS => exact (below_size (by repeat (first | (with_reducible first | exact HB.out | apply below_alloc | apply pw_below_drewN | apply below_drew1) | exact HB.out)))); (case aL => have := LMc12.out; omega); intro v120 w14 ho hb hg hat; rw [← Ny119.out] at ho; have n0_ := Aside0.mk (hb); have n1_ := Aside0.mk (ho); clear HB; clear HO_4; have HB := n0_; have HO121 := n1_; clear n0_ n1_; clear ho hb hg hat)))
         go_roundg k1
         case measure => have := HK1.out; omega
         case rel => exact ⟨(y119), (wrap64 (x17_1 + 1)), (by first | rfl | (simp; done) | (simp [*]; done)), H', ⟨by have := HK1.out; omega⟩, ⟨by (with_reducible repeat (first | apply Kd.R_alloc | apply Kd.R_drewN | apply Kd.R_drew)); exact HO121.out⟩, ⟨by repeat (first | (with_reducible first | exact HB.out | apply below_alloc | apply pw_below_drewN | apply below_drew1) | exact HB.out)⟩⟩
        ·rw [if_neg c12] at H
         exact absurd H (by simp)
       ·replace c10 := Bool.eq_false_iff.mpr c10
        subst c10
        have H1 : (if (rd l0 x17_1) = (-1) then (impl_rowsOf.j1 k1 x4_1 (rd l0 x17_1) (x4_1.length : Int) l0 (l0.length : Int) x17_1 (decide ((x4_1.length : Int) ≥ 1))) else (impl_rowsOf.j1 k1 x4_1 (rd l0 x17_1) (x4_1.length : Int) l0 (l0.length : Int) x17_1 false)) = some (r1, r2) := by rw [if_neg (show ¬ (false = true) by decide)] at H; exact H
        clear H
        have H := H1
        clear H1
        have HC15 := Aside0.mk H
        clear H
        have p116 : 0 ≤ (x17_1 : Int) := of_decide_eq_true (by first | (with_reducible assumption) | assumption)
        have q116 : x17_1 < (l0.length : Int) := of_decide_eq_true (by first | (with_reducible assumption) | assumption)
        obtain ⟨ad116, e116, hx116_0⟩ := Kd.at_int HR0.out x17_1 p116 q116
        cases e116
        replace hx116_0 := (HB.out.cell (World.block_lt_of_cell? w _ hx116_0)).trans hx116_0
        replace p116 := eq_true p116
        replace q116 := eq_true q116
        obtain ⟨Ao16, co16, eo16⟩ := Kd.R_slice HO_4.out
        subst eo16
        go_upto_region 11 with (first | (go_at_call 73; (with_reducible refine (impl_InRange.calls (rd l0 x17_1) 0 5 false _ A9.out).mono ?_); rintro e w' ⟨rfl, ⟨nd, rfl⟩⟩; (try first | exact ⟨rfl, _, World.drewN_drewN _ _ _⟩ | exact ⟨rfl, _, Eq.trans (World.drewN_drewN _ _ _) (congrArg (World.drewN _) (Nat.add_assoc _ _ _))⟩)))
        repeat (go_quiet (first | (go_at_call 73; (with_reducible refine (impl_InRange.calls (rd l0 x17_1) 0 5 false _ A9.out).mono ?_); rintro e w' ⟨rfl, ⟨nd, rfl⟩⟩; (try first | exact ⟨rfl, _, World.drewN_drewN _ _ _⟩ | exact ⟨rfl, _, Eq.trans (World.drewN_drewN _ _ _) (congrArg (World.drewN _) (Nat.add_assoc _ _ _))⟩))); go_upto_region 11 with (first | (go_at_call 73; (with_reducible refine (impl_InRange.calls (rd l0 x17_1) 0 5 false _ A9.out).mono ?_); rintro e w' ⟨rfl, ⟨nd, rfl⟩⟩; (try first | exact ⟨rfl, _, World.drewN_drewN _ _ _⟩ | exact ⟨rfl, _, Eq.trans (World.drewN_drewN _ _ _) (congrArg (World.drewN _) (Nat.add_assoc _ _ _))⟩))))
        (try simp only [Act.put, List.setIfInBounds_toArray, List.set_cons_zero, List.set_cons_succ])
        go_cut [31] (fun v31 wc => ∃ (kq : Nat) (x31_14 : Bool), v31 = .bool x31_14 ∧ Aside0 (impl_rowsOf.j1 kq x4_1 (rd l0 x17_1) (x4_1.length : Int) l0 (l0.length : Int) x17_1 x31_14 = some (r1, r2)) ∧ Aside0 (kq ≤ k1) ∧ Aside0 (Kd.R (Kd.int .u64) 53 wc w.heap.size (fun _ => True) (.slice Ao16 x4_1.length co16) x4_1) ∧ Aside0 (Below w.heap.size w wc))
        case first =>
         have H := HC15.out
         clear HC15
         by_cases c17 : (rd l0 x17_1) = (-1)
         ·rw [if_pos c17] at H
          have c17b0 : ((rd l0 x17_1) == (-1)) = true := beq_iff_eq.mpr c17
          have c17b1 : ((rd l0 x17_1) != (-1)) = false := bne_eq_false_iff_eq.mpr c17
          clear c17
          (first | rw [c17b0] | (simp only [i64_w, i32_w]; rw [c17b0]) | skip)
          have H' := Aside0.mk H
          clear H
          go_wp2
          repeat (go_quiet (fail); try go_wp2)
          go_meet
          case rel => exact ⟨_, (decide ((x4_1.length : Int) ≥ 1)), (by first | rfl | (simp; done) | (simp [*]; done)), H', ⟨by have := HK1.out; first | omega | exact Nat.le_refl _⟩, ⟨by (with_reducible repeat (first | apply Kd.R_alloc | apply Kd.R_drewN | apply Kd.R_drew)); exact HO_4.out⟩, ⟨by repeat (first | (with_reducible first | exact HB.out | apply below_alloc | apply pw_below_drewN | apply below_drew1) | exact HB.out)⟩⟩
         ·rw [if_neg c17] at H
          have c17b0 : ((rd l0 x17_1) == (-1)) = false := beq_eq_false_iff_ne.mpr c17
          have c17b1 : ((rd l0 x17_1) != (-1)) = true := bne_iff_ne.mpr c17
          (first | rw [c17b0] | (simp only [i64_w, i32_w]; rw [c17b0]) | skip)
          have H' := Aside0.mk H
          clear H
          go_wp2
          repeat (go_quiet (fail); try go_wp2)
          go_meet
          case rel => exact ⟨_, (false), (by first | rfl | (simp; done) | (simp [*]; done)), H', ⟨by have := HK1.out; first | omega | exact Nat.le_refl _⟩, ⟨by (with_reducible repeat (first | apply Kd.R_alloc | apply Kd.R_drewN | apply Kd.R_drew)); exact HO_4.out⟩, ⟨by repeat (first | (with_reducible first | exact HB.out | apply below_alloc | apply pw_below_drewN | apply below_drew1) | exact HB.out)⟩⟩
        case rest =>
         clear HC15
         try clear c1
         try clear p1
         try clear q1
         try clear hx1
         try clear p2
         try clear c3
         try clear c6
         try clear c6b0
         try clear p6
         try clear c7
         try clear c7b0
         try clear c8
         try clear c8b0
         try clear c10
         try clear p11
         try clear q11
         try clear hx11
         try clear c12
         try clear c17
         try clear c17b0
         try clear c17b1
         try clear hx116_0
         try clear p116
         try clear p2
         try clear q116
         obtain ⟨kq, x31_14, rfl, HA, HJ14, HO_4, HB⟩ := hcut
         cases kq with
         | zero => exact absurd HA.out (by simp [impl_rowsOf.j1])
         | succ kj14 =>
          have H := HA.out
          clear HA
          simp only [impl_rowsOf.j1] at H
          by_cases c18 : x31_14 = true
          ·subst c18
           have H1 : (if 0 ≤ (wrap64 ((x4_1.length : Int) - 1)) then (if (wrap64 ((x4_1.length : Int) - 1)) < (x4_1.length : Int) then (impl_rowsOf.l0 kj14 (x4_1.set ((wrap64 ((x4_1.length : Int) - 1)) : Int).toNat (Go.bits .xor .u64 18446744073709551615 (rd x4_1 (wrap64 ((x4_1.length : Int) - 1))))) l0 (l0.length : Int) (wrap64 (x17_1 + 1))) else (none)) else (none)) = some (r1, r2) := by rw [if_pos rfl] at H; exact H
           clear H
           have H := H1
           clear H1
           obtain ⟨ji19, hji19⟩ : ∃ j_ : Int, (wrap64 ((x4_1.length : Int) - 1)) = j_ := ⟨_, rfl⟩
           replace H : (if 0 ≤ (ji19) then (if (ji19) < (x4_1.length : Int) then (impl_rowsOf.l0 kj14 (x4_1.set ((ji19) : Int).toNat (Go.bits .xor .u64 18446744073709551615 (rd x4_1 (ji19)))) l0 (l0.length : Int) (wrap64 (x17_1 + 1))) else (none)) else (none)) = some (r1, r2) := by first | (rw [hji19] at H; exact H) | (simp only [hji19] at H ⊢; exact H)
           have hji19w : (IntKind.i64.wrap ((x4_1.length : Int) - 1)) = ji19 := (i64_w _).trans hji19
           by_cases c20 : 0 ≤ (ji19)
           ·rw [if_pos c20] at H
            have c20b0 : decide (0 ≤ (ji19)) = true := decide_eq_true c20
            clear c20
            by_cases c21 : (ji19) < (x4_1.length : Int)
            ·rw [if_pos c21] at H
             have c21b0 : decide ((ji19) < (x4_1.length : Int)) = true := decide_eq_true c21
             clear c21
             obtain ⟨y123, hy123⟩ : ∃ y_ : List Int, y_ = (x4_1.set ((ji19) : Int).toNat (Go.bits .xor .u64 18446744073709551615 (rd x4_1 (ji19)))) := ⟨_, rfl⟩
             replace H : (impl_rowsOf.l0 kj14 y123 l0 (l0.length : Int) (wrap64 (x17_1 + 1))) = some (r1, r2) := by first | (rw [hy123]; with_reducible exact H) | (have H2_ := (Option.bind_some _ _).symm.trans H; rw [hy123]; with_reducible exact H2_) | (have H2_ := (Option.bind_some _ _).symm.trans H; with_reducible exact H2_) | with_reducible exact H | (rw [hy123]; exact H) | exact H
             have Ny123 := Aside0.mk hy123
             clear hy123
             have H' := Aside0.mk H
             clear H
             have p122 : 0 ≤ ((ji19) : Int) := of_decide_eq_true (by first | (with_reducible assumption) | assumption)
             have q122 : (ji19) < (x4_1.length : Int) := of_decide_eq_true (by first | (with_reducible assumption) | assumption)
             obtain ⟨ad122, e122, hx122_0⟩ := Kd.at_int (Kd.R_reads' HO_4.out).2.2 (ji19) p122 q122
             cases e122
             replace p122 := eq_true p122
             replace q122 := eq_true q122
             have p22 : 0 ≤ ((ji19) : Int) := of_decide_eq_true (by first | (with_reducible assumption) | assumption)
             have q22 : ((ji19) : Int) < ((x4_1.length : Int) : Int) := of_decide_eq_true (by first | (with_reducible assumption) | assumption)
             obtain ⟨go22, co22, eo22, gb22, gl22, cl22, HG22⟩ := Kd.R_form HO_4.out (by omega)
             (first | cases eo22 | (injection eo22 with ea_ en_ ec_; (first | subst ea_ | (injection ea_ with ea_; subst ea_)); subst ec_; clear en_))
             have GB22 := Aside0.mk gb22
             have GG22 := Aside0.mk HG22
             clear gb22 gl22 HG22
             (first | simp only [add_plain] at hx122_0 | skip)
             obtain ⟨hx22_0, hf22_0⟩ := Kd.R_celln 0 HO_4.out ((ji19) : Int) p22 q22
             replace p22 := eq_true p22
             replace q22 := eq_true q22
             have HP23 := Kd.R_putg HO_4.out ((ji19) : Int) (Go.bits .xor .u64 18446744073709551615 (rd x4_1 (ji19)))
             go_wp2_with (first | ((with_reducible refine gate_store (t := 53) (p := 47) rfl ?_); (try (rw [drewN_self wc]; generalize hq_ : World.drewN wc _ = wc; have n0_ := Aside0.mk (Kd.R_at hq_ HO_4.out); have n1_ := Aside0.mk (below_at hq_ HB.out); clear hq_ HO_4 HB; have HO_4 := n0_; have HB := n1_; clear n0_ n1_; (try (have HP23 := Kd.R_putg HO_4.out ((ji19) : Int) (Go.bits .xor .u64 18446744073709551615 (rd x4_1 (ji19))))); (try (obtain ⟨hx22_0, hf22_0⟩ := Kd.R_celln 0 HO_4.out ((ji19) : Int) (of_eq_true p22) (of_eq_true q22))))); refine store_event (t := 53) (p := 47) (v := ?vo_w24) (w1 := (wc.setCell ⟨go22, ((ji19) : Int).toNat, none⟩ (.int .u64 (Go.bits .xor .u64 18446744073709551615 (rd x4_1 (ji19)))))) ?hg ?ho ?hn ?hr ?_; (case ho => rfl); (case hg => rfl); (case hn => rfl); (case hr => first | (go_simp; done) | (go_simp; rfl)); intro w24 hw; have hg : wc.grownBy w24 (some go22) := (by rw [hw]; exact HP23.2); have hp_ : Kd.R (Kd.int .u64) 53 w24 w.heap.size (fun _ => True) (.slice (some ⟨go22, 0, none⟩) x4_1.length co16) y123 := (by rw [hw, Ny123.out]; exact HP23.1); clear HP23; have n0_ := Aside0.mk (hp_); have n1_ := Aside0.mk ((by rw [hw]; exact below_set (HB.out) GB22.out : Below w.heap.size w w24)); clear HO_4; clear HB; have HO_4 := n0_; have HB := n1_; clear n0_ n1_; clear hg hw hp_))
             repeat (go_quiet (first | ((with_reducible refine gate_store (t := 53) (p := 47) rfl ?_); (try (rw [drewN_self wc]; generalize hq_ : World.drewN wc _ = wc; have n0_ := Aside0.mk (Kd.R_at hq_ HO_4.out); have n1_ := Aside0.mk (below_at hq_ HB.out); clear hq_ HO_4 HB; have HO_4 := n0_; have HB := n1_; clear n0_ n1_; (try (have HP23 := Kd.R_putg HO_4.out ((ji19) : Int) (Go.bits .xor .u64 18446744073709551615 (rd x4_1 (ji19))))); (try (obtain ⟨hx22_0, hf22_0⟩ := Kd.R_celln 0 HO_4.out ((ji19) : Int) (of_eq_true p22) (of_eq_true q22))))); refine store_event (t := 53) (p := 47) (v := ?vo_w24) (w1 := (wc.setCell ⟨go22, ((ji19) : Int).toNat, none⟩ (.int .u64 (Go.bits .xor .u64 18446744073709551615 (rd x4_1 (ji19)))))) ?hg ?ho ?hn ?hr ?_; (case ho => rfl); (case hg => rfl); (case hn => rfl); (case hr => first | (go_simp; done) | (go_simp; rfl)); intro w24 hw; have hg : wc.grownBy w24 (some go22) := (by rw [hw]; exact HP23.2); have hp_ : Kd.R (Kd.int .u64) 53 w24 w.heap.size (fun _ => True) (.slice (some ⟨go22, 0, none⟩) x4_1.length co16) y123 := (by rw [hw, Ny123.out]; exact HP23.1); clear HP23; have n0_ := Aside0.mk (hp_); have n1_ := Aside0.mk ((by rw [hw]; exact below_set (HB.out) GB22.out : Below w.heap.size w w24)); clear HO_4; clear HB; have HO_4 := n0_; have HB := n1_; clear n0_ n1_; clear hg hw hp_)); try go_wp2_with (first | ((with_reducible refine gate_store (t := 53) (p := 47) rfl ?_); (try (rw [drewN_self wc]; generalize hq_ : World.drewN wc _ = wc; have n0_ := Aside0.mk (Kd.R_at hq_ HO_4.out); have n1_ := Aside0.mk (below_at hq_ HB.out); clear hq_ HO_4 HB; have HO_4 := n0_; have HB := n1_; clear n0_ n1_; (try (have HP23 := Kd.R_putg HO_4.out ((ji19) : Int) (Go.bits .xor .u64 18446744073709551615 (rd x4_1 (ji19))))); (try (obtain ⟨hx22_0, hf22_0⟩ := Kd.R_celln 0 HO_4.out ((ji19) : Int) (of_eq_true p22) (of_eq_true q22))))); refine store_event (t := 53) (p := 47) (v := ?vo_w24) (w1 := (wc.setCell ⟨go22, ((ji19) : Int).toNat, none⟩ (.int .u64 (Go.bits .xor .u64 18446744073709551615 (rd x4_1 (ji19)))))) ?hg ?ho ?hn ?hr ?_; (case ho => rfl); (case hg => rfl); (case hn => rfl); (case hr => first | (go_simp; done) | (go_simp; rfl)); intro w24 hw; have hg : wc.grownBy w24 (some go22) := (by rw [hw]; exact HP23.2); have hp_ : Kd.R (Kd.int .u64) 53 w24 w.heap.size (fun _ => True) (.slice (some ⟨go22, 0, none⟩) x4_1.length co16) y123 := (by rw [hw, Ny123.out]; exact HP23.1); clear HP23; have n0_ := Aside0.mk (hp_); have n1_ := Aside0.mk ((by rw [hw]; exact below_set (HB.out) GB22.out : Below w.heap.size w w24)); clear HO_4; clear HB; have HO_4 := n0_; have HB := n1_; clear n0_ n1_; clear hg hw hp_)))
             go_roundg kj14
             case measure => have := HK1.out; have := HJ14.out; omega
             case rel => exact ⟨(y123), (wrap64 (x17_1 + 1)), (by first | rfl | (simp; done) | (simp [*]; done)), H', ⟨by have := HK1.out; have := HJ14.out; omega⟩, ⟨by (with_reducible repeat (first | apply Kd.R_alloc | apply Kd.R_drewN | apply Kd.R_drew)); exact HO_4.out⟩, ⟨by repeat (first | (with_reducible first | exact HB.out | apply below_alloc | apply pw_below_drewN | apply below_drew1) | exact HB.out)⟩⟩
            ·rw [if_neg c21] at H
             exact absurd H (by simp)
           ·rw [if_neg c20] at H
            exact absurd H (by simp)
          ·replace c18 := Bool.eq_false_iff.mpr c18
           subst c18
           have H1 : ((impl_InRange.f (rd l0 x17_1) (-4) (-2)).bind fun t124 => (if t124 = true then (impl_rowsOf.j2 kj14 x4_1 (rd l0 x17_1) (x4_1.length : Int) l0 (l0.length : Int) x17_1 (decide ((x4_1.length : Int) ≥ 2))) else (impl_rowsOf.j2 kj14 x4_1 (rd l0 x17_1) (x4_1.length : Int) l0 (l0.length : Int) x17_1 false))) = some (r1, r2) := by rw [if_neg (show ¬ (false = true) by decide)] at H; exact H
           clear H
           have H := H1
           clear H1
           have HC25 := Aside0.mk H
           clear H
           go_upto_region 13 with (fail)
           repeat (go_quiet (fail); go_upto_region 13 with (fail))
           go_cut [48] (fun v48 wc => ∃ (kq : Nat) (x48_24 : Bool), v48 = .bool x48_24 ∧ Aside0 (impl_rowsOf.j2 kq x4_1 (rd l0 x17_1) (x4_1.length : Int) l0 (l0.length : Int) x17_1 x48_24 = some (r1, r2)) ∧ Aside0 (kq ≤ kj14) ∧ Aside0 (Kd.R (Kd.int .u64) 53 wc w.heap.size (fun _ => True) (.slice Ao16 x4_1.length co16) x4_1) ∧ Aside0 (Below w.heap.size w wc))
           case first =>
            have H := HC25.out
            clear HC25
            replace H := Option.bind_eq_some_iff.mp H
            obtain ⟨t124, A260, H⟩ := H
            replace H : (if t124 = true then (impl_rowsOf.j2 kj14 x4_1 (rd l0 x17_1) (x4_1.length : Int) l0 (l0.length : Int) x17_1 (decide ((x4_1.length : Int) ≥ 2))) else (impl_rowsOf.j2 kj14 x4_1 (rd l0 x17_1) (x4_1.length : Int) l0 (l0.length : Int) x17_1 false)) = some (r1, r2) := H
            have A26 := Aside0.mk A260
            clear A260
            by_cases c27 : t124 = true
            ·subst c27
             have H1 : (impl_rowsOf.j2 kj14 x4_1 (rd l0 x17_1) (x4_1.length : Int) l0 (l0.length : Int) x17_1 (decide ((x4_1.length : Int) ≥ 2))) = some (r1, r2) := by rw [if_pos rfl] at H; exact H
             clear H
             have H := H1
             clear H1
             have H' := Aside0.mk H
             clear H
             go_wp2_with (first | (go_at_call 73; (with_reducible refine (impl_InRange.calls (rd l0 x17_1) (-4) (-2) true _ A26.out).mono ?_); rintro e w' ⟨rfl, ⟨nd, rfl⟩⟩; (try first | exact ⟨rfl, _, World.drewN_drewN _ _ _⟩ | exact ⟨rfl, _, Eq.trans (World.drewN_drewN _ _ _) (congrArg (World.drewN _) (Nat.add_assoc _ _ _))⟩)))
             repeat (go_quiet (first | (go_at_call 73; (with_reducible refine (impl_InRange.calls (rd l0 x17_1) (-4) (-2) true _ A26.out).mono ?_); rintro e w' ⟨rfl, ⟨nd, rfl⟩⟩; (try first | exact ⟨rfl, _, World.drewN_drewN _ _ _⟩ | exact ⟨rfl, _, Eq.trans (World.drewN_drewN _ _ _) (congrArg (World.drewN _) (Nat.add_assoc _ _ _))⟩))); try go_wp2_with (first | (go_at_call 73; (with_reducible refine (impl_InRange.calls (rd l0 x17_1) (-4) (-2) true _ A26.out).mono ?_); rintro e w' ⟨rfl, ⟨nd, rfl⟩⟩; (try first | exact ⟨rfl, _, World.drewN_drewN _ _ _⟩ | exact ⟨rfl, _, Eq.trans (World.drewN_drewN _ _ _) (congrArg (World.drewN _) (Nat.add_assoc _ _ _))⟩))))
             go_meet
             case rel => exact ⟨_, (decide ((x4_1.length : Int) ≥ 2)), (by first | rfl | (simp; done) | (simp [*]; done)), H', ⟨by have := HK1.out; have := HJ14.out; first | omega | exact Nat.le_refl _⟩, ⟨by (with_reducible repeat (first | apply Kd.R_alloc | apply Kd.R_drewN | apply Kd.R_drew)); exact HO_4.out⟩, ⟨by repeat (first | (with_reducible first | exact HB.out | apply below_alloc | apply pw_below_drewN | apply below_drew1) | exact HB.out)⟩⟩
            ·replace c27 := Bool.eq_false_iff.mpr c27
             subst c27
             have H1 : (impl_rowsOf.j2 kj14 x4_1 (rd l0 x17_1) (x4_1.length : Int) l0 (l0.length : Int) x17_1 false) = some (r1, r2) := by rw [if_neg (show ¬ (false = true) by decide)] at H; exact H
             clear H
             have H := H1
             clear H1
             have H' := Aside0.mk H
             clear H
             go_wp2_with (first | (go_at_call 73; (with_reducible refine (impl_InRange.calls (rd l0 x17_1) (-4) (-2) false _ A26.out).mono ?_); rintro e w' ⟨rfl, ⟨nd, rfl⟩⟩; (try first | exact ⟨rfl, _, World.drewN_drewN _ _ _⟩ | exact ⟨rfl, _, Eq.trans (World.drewN_drewN _ _ _) (congrArg (World.drewN _) (Nat.add_assoc _ _ _))⟩)))
             repeat (go_quiet (first | (go_at_call 73; (with_reducible refine (impl_InRange.calls (rd l0 x17_1) (-4) (-2) false _ A26.out).mono ?_); rintro e w' ⟨rfl, ⟨nd, rfl⟩⟩; (try first | exact ⟨rfl, _, World.drewN_drewN _ _ _⟩ | exact ⟨rfl, _, Eq.trans (World.drewN_drewN _ _ _) (congrArg (World.drewN _) (Nat.add_assoc _ _ _))⟩))); try go_wp2_with (first | (go_at_call 73; (with_reducible refine (impl_InRange.calls (rd l0 x17_1) (-4) (-2) false _ A26.out).mono ?_); rintro e w' ⟨rfl, ⟨nd, rfl⟩⟩; (try first | exact ⟨rfl, _, World.drewN_drewN _ _ _⟩ | exact ⟨rfl, _, Eq.trans (World.drewN_drewN _ _ _) (congrArg (World.drewN _) (Nat.add_assoc _ _ _))⟩))))
             go_meet
             case rel => exact ⟨_, (false), (by first | rfl | (simp; done) | (simp [*]; done)), H', ⟨by have := HK1.out; have := HJ14.out; first | omega | exact Nat.le_refl _⟩, ⟨by (with_reducible repeat (first | apply Kd.R_alloc | apply Kd.R_drewN | apply Kd.R_drew)); exact HO_4.out⟩, ⟨by repeat (first | (with_reducible first | exact HB.out | apply below_alloc | apply pw_below_drewN | apply below_drew1) | exact HB.out)⟩⟩
           case rest =>
            clear HC25
            try clear c1
            try clear p1
            try clear q1
            try clear hx1
            try clear c2
            try clear p2
            try clear q2
            try clear hx2
            try clear hf2
            try clear c3
            try clear c6
            try clear c6b0
            try clear p6
            try clear c7
            try clear c7b0
            try clear c8
            try clear c8b0
            try clear c10
            try clear p11
            try clear q11
            try clear hx11
            try clear c12
            try clear p12
            try clear q12
            try clear hx12
            try clear c17
            try clear c17b0
            try clear c17b1
            try clear c18
            try clear c20
            try clear c20b0
            try clear c21
            try clear c21b0
            try clear p22
            try clear q22
            try clear hx22
            try clear hf22
            try clear c27
            try clear hx116_0
            try clear hx122_0
            try clear hx22_0
            try clear p1
            try clear p11
            try clear p116
            try clear p122
            try clear p2
            try clear p22
            try clear p6
            try clear q1
            try clear q11
            try clear q116
            try clear q122
            try clear q22
            obtain ⟨kq, x48_24, rfl, HA, HJ24, HO_4, HB⟩ := hcut
            cases kq with
            | zero => exact absurd HA.out (by simp [impl_rowsOf.j2])
            | succ kj24 =>
             have H := HA.out
             clear HA
             simp only [impl_rowsOf.j2] at H
             by_cases c28 : x48_24 = true
             ·subst c28
              have H1 : (if 0 ≤ (wrap64 ((x4_1.length : Int) - 2)) then (if (wrap64 ((x4_1.length : Int) - 2)) < (x4_1.length : Int) then (if 0 ≤ (wrap64 ((x4_1.length : Int) - 1)) then (if (wrap64 ((x4_1.length : Int) - 1)) < (x4_1.length : Int) then (if (wrap64 ((x4_1.length : Int) - 1)) ≤ (x4_1.length : Int) then ((some (x4_1.take ((wrap64 ((x4_1.length : Int) - 1)) : Int).toNat : List Int)).bind fun y127 => (if (rd l0 x17_1) = (-2) then (if (wrap64 ((x4_1.length : Int) - 2)) < (y127.length : Int) then (impl_rowsOf.l0 kj24 (y127.set ((wrap64 ((x4_1.length : Int) - 2)) : Int).toNat (Go.bits .and .u64 (rd x4_1 (wrap64 ((x4_1.length : Int) - 2))) (rd x4_1 (wrap64 ((x4_1.length : Int) - 1))))) l0 (l0.length : Int) (wrap64 (x17_1 + 1))) else (none)) else (if (rd l0 x17_1) = (-3) then (if (wrap64 ((x4_1.length : Int) - 2)) < (y127.length : Int) then (impl_rowsOf.l0 kj24 (y127.set ((wrap64 ((x4_1.length : Int) - 2)) : Int).toNat (Go.bits .or .u64 (rd x4_1 (wrap64 ((x4_1.length : Int) - 2))) (rd x4_1 (wrap64 ((x4_1.length : Int) - 1))))) l0 (l0.length : Int) (wrap64 (x17_1 + 1))) else (none)) else (if (wrap64 ((x4_1.length : Int) - 2)) < (y127.length : Int) then (impl_rowsOf.l0 kj24 (y127.set ((wrap64 ((x4_1.length : Int) - 2)) : Int).toNat (Go.bits .or .u64 (Go.bits .xor .u64 18446744073709551615 (rd x4_1 (wrap64 ((x4_1.length : Int) - 2)))) (rd x4_1 (wrap64 ((x4_1.length : Int) - 1))))) l0 (l0.length : Int) (wrap64 (x17_1 + 1))) else (none))))) else (none)) else (none)) else (none)) else (none)) else (none)) = some (r1, r2) := by rw [if_pos rfl] at H; exact H
              clear H
              have H := H1
              clear H1
              obtain ⟨ji29, hji29⟩ : ∃ j_ : Int, (wrap64 ((x4_1.length : Int) - 2)) = j_ := ⟨_, rfl⟩
              replace H : (if 0 ≤ (ji29) then (if (ji29) < (x4_1.length : Int) then (if 0 ≤ (wrap64 ((x4_1.length : Int) - 1)) then (if (wrap64 ((x4_1.length : Int) - 1)) < (x4_1.length : Int) then (if (wrap64 ((x4_1.length : Int) - 1)) ≤ (x4_1.length : Int) then ((some (x4_1.take ((wrap64 ((x4_1.length : Int) - 1)) : Int).toNat : List Int)).bind fun y127 => (if (rd l0 x17_1) = (-2) then (if (ji29) < (y127.length : Int) then (impl_rowsOf.l0 kj24 (y127.set ((ji29) : Int).toNat (Go.bits .and .u64 (rd x4_1 (ji29)) (rd x4_1 (wrap64 ((x4_1.length : Int) - 1))))) l0 (l0.length : Int) (wrap64 (x17_1 + 1))) else (none)) else (if (rd l0 x17_1) = (-3) then (if (ji29) < (y127.length : Int) then (impl_rowsOf.l0 kj24 (y127.set ((ji29) : Int).toNat (Go.bits .or .u64 (rd x4_1 (ji29)) (rd x4_1 (wrap64 ((x4_1.length : Int) - 1))))) l0 (l0.length : Int) (wrap64 (x17_1 + 1))) else (none)) else (if (ji29) < (y127.length : Int) then (impl_rowsOf.l0 kj24 (y127.set ((ji29) : Int).toNat (Go.bits .or .u64 (Go.bits .xor .u64 18446744073709551615 (rd x4_1 (ji29))) (rd x4_1 (wrap64 ((x4_1.length : Int) - 1))))) l0 (l0.length : Int) (wrap64 (x17_1 + 1))) else (none))))) else (none)) else (none)) else (none)) else (none)) else (none)) = some (r1, r2) := by first | (rw [hji29] at H; exact H) | (simp only [hji29] at H ⊢; exact H)
              have hji29w : (IntKind.i64.wrap ((x4_1.length : Int) - 2)) = ji29 := (i64_w _).trans hji29
              by_cases c30 : 0 ≤ (ji29)
              ·rw [if_pos c30] at H
               have c30b0 : decide (0 ≤ (ji29)) = true := decide_eq_true c30
               clear c30
               by_cases c31 : (ji29) < (x4_1.length : Int)
               ·rw [if_pos c31] at H
                have c31b0 : decide ((ji29) < (x4_1.length : Int)) = true := decide_eq_true c31
                clear c31
                obtain ⟨ji32, hji32⟩ : ∃ j_ : Int, (wrap64 ((x4_1.length : Int) - 1)) = j_ := ⟨_, rfl⟩
                replace H : (if 0 ≤ (ji32) then (if (ji32) < (x4_1.length : Int) then (if (ji32) ≤ (x4_1.length : Int) then ((some (x4_1.take ((ji32) : Int).toNat : List Int)).bind fun y127 => (if (rd l0 x17_1) = (-2) then (if (ji29) < (y127.length : Int) then (impl_rowsOf.l0 kj24 (y127.set ((ji29) : Int).toNat (Go.bits .and .u64 (rd x4_1 (ji29)) (rd x4_1 (ji32)))) l0 (l0.length : Int) (wrap64 (x17_1 + 1))) else (none)) else (if (rd l0 x17_1) = (-3) then (if (ji29) < (y127.length : Int) then (impl_rowsOf.l0 kj24 (y127.set ((ji29) : Int).toNat (Go.bits .or .u64 (rd x4_1 (ji29)) (rd x4_1 (ji32)))) l0 (l0.length : Int) (wrap64 (x17_1 + 1))) else (none)) else (if (ji29) < (y127.length : Int) then (impl_rowsOf.l0 kj24 (y127.set ((ji29) : Int).toNat (Go.bits .or .u64 (Go.bits .xor .u64 18446744073709551615 (rd x4_1 (ji29))) (rd x4_1 (ji32)))) l0 (l0.length : Int) (wrap64 (x17_1 + 1))) else (none))))) else (none)) else (none)) else (none)) = some (r1, r2) := by first | (rw [hji32] at H; exact H) | (simp only [hji32] at H ⊢; exact H)
                have hji32w : (IntKind.i64.wrap ((x4_1.length : Int) - 1)) = ji32 := (i64_w _).trans hji32
                by_cases c33 : 0 ≤ (ji32)
                ·rw [if_pos c33] at H
                 have c33b0 : decide (0 ≤ (ji32)) = true := decide_eq_true c33
                 clear c33
                 by_cases c34 : (ji32) < (x4_1.length : Int)
                 ·rw [if_pos c34] at H
                  have c34b0 : decide ((ji32) < (x4_1.length : Int)) = true := decide_eq_true c34
                  clear c34
                  by_cases c35 : (ji32) ≤ (x4_1.length : Int)
                  ·rw [if_pos c35] at H
                   have c35b0 := eq_true c35
                   have c35b1 : decide ((ji32) ≤ (x4_1.length : Int)) = true := decide_eq_true c35
                   clear c35
                   obtain ⟨y127, hy127⟩ : ∃ y_ : List Int, y_ = (x4_1.take ((ji32) : Int).toNat) := ⟨_, rfl⟩
                   replace H : (if (rd l0 x17_1) = (-2) then (if (ji29) < (y127.length : Int) then (impl_rowsOf.l0 kj24 (y127.set ((ji29) : Int).toNat (Go.bits .and .u64 (rd x4_1 (ji29)) (rd x4_1 (ji32)))) l0 (l0.length : Int) (wrap64 (x17_1 + 1))) else (none)) else (if (rd l0 x17_1) = (-3) then (if (ji29) < (y127.length : Int) then (impl_rowsOf.l0 kj24 (y127.set ((ji29) : Int).toNat (Go.bits .or .u64 (rd x4_1 (ji29)) (rd x4_1 (ji32)))) l0 (l0.length : Int) (wrap64 (x17_1 + 1))) else (none)) else (if (ji29) < (y127.length : Int) then (impl_rowsOf.l0 kj24 (y127.set ((ji29) : Int).toNat (Go.bits .or .u64 (Go.bits .xor .u64 18446744073709551615 (rd x4_1 (ji29))) (rd x4_1 (ji32)))) l0 (l0.length : Int) (wrap64 (x17_1 + 1))) else (none)))) = some (r1, r2) := by first | (rw [hy127]; with_reducible exact H) | (have H2_ := (Option.bind_some _ _).symm.trans H; rw [hy127]; with_reducible exact H2_) | (have H2_ := (Option.bind_some _ _).symm.trans H; with_reducible exact H2_) | with_reducible exact H | (rw [hy127]; exact H) | exact H
                   have Ny127 := Aside0.mk hy127
                   clear hy127
                   by_cases c36 : (rd l0 x17_1) = (-2)
                   ·rw [if_pos c36] at H
                    have c36b0 : ((rd l0 x17_1) == (-2)) = true := beq_iff_eq.mpr c36
                    have c36b1 : ((rd l0 x17_1) != (-2)) = false := bne_eq_false_iff_eq.mpr c36
                    clear c36
                    by_cases c37 : (ji29) < (y127.length : Int)
                    ·rw [if_pos c37] at H
                     have c37b0 : decide ((ji29) < (y127.length : Int)) = true := decide_eq_true c37
                     clear c37
                     obtain ⟨y130, hy130⟩ : ∃ y_ : List Int, y_ = (y127.set ((ji29) : Int).toNat (Go.bits .and .u64 (rd x4_1 (ji29)) (rd x4_1 (ji32)))) := ⟨_, rfl⟩
                     replace H : (impl_rowsOf.l0 kj24 y130 l0 (l0.length : Int) (wrap64 (x17_1 + 1))) = some (r1, r2) := by first | (rw [hy130]; with_reducible exact H) | (have H2_ := (Option.bind_some _ _).symm.trans H; rw [hy130]; with_reducible exact H2_) | (have H2_ := (Option.bind_some _ _).symm.trans H; with_reducible exact H2_) | with_reducible exact H | (rw [hy130]; exact H) | exact H
                     have Ny130 := Aside0.mk hy130
                     clear hy130
                     have H' := Aside0.mk H
                     clear H
                     have p125 : 0 ≤ ((ji29) : Int) := of_decide_eq_true (by first | (with_reducible assumption) | assumption)
                     have q125 : (ji29) < (x4_1.length : Int) := of_decide_eq_true (by first | (with_reducible assumption) | assumption)
                     obtain ⟨ad125, e125, hx125_0⟩ := Kd.at_int (Kd.R_reads' HO_4.out).2.2 (ji29) p125 q125
                     cases e125
                     replace p125 := eq_true p125
                     replace q125 := eq_true q125
                     have p126 : 0 ≤ ((ji32) : Int) := of_decide_eq_true (by first | (with_reducible assumption) | assumption)
                     have q126 : (ji32) < (x4_1.length : Int) := of_decide_eq_true (by first | (with_reducible assumption) | assumption)
                     obtain ⟨ad126, e126, hx126_0⟩ := Kd.at_int (Kd.R_reads' HO_4.out).2.2 (ji32) p126 q126
                     obtain rfl : ad125 = ad126 := (by injection e126)
                     replace p126 := eq_true p126
                     replace q126 := eq_true q126
                     have q39 : ((ji32) : Int) ≤ ((x4_1.length : Int) : Int) := of_decide_eq_true (by first | (with_reducible assumption) | assumption)
                     obtain ⟨i039, hi039, _, hsz39, _⟩ := info_parts info53
                     have hcut39 := cut_to (P := Try.prog) 74 53 .i64 Try.underlying74 hi039 (some ad125) x4_1.length co16 (ji32) (of_decide_eq_true (by first | (with_reducible assumption) | assumption)) q39 (Kd.R_reads' HO_4.out).2.1
                     have hr39 := Kd.R_take (m := ((ji32) : Int).toNat) HO_4.out (by first | omega | (rw [Ny130.out, List.length_set]; omega) | (rw [Ny127.out, List.length_set]; omega) | (rw [Ny123.out, List.length_set]; omega) | (rw [Ny119.out, List.length_set]; omega) | (rw [Ny112.out, List.length_set]; omega))
                     have hy39 : y127.length = ((ji32) : Int).toNat := (by first | (rw [Ny127.out, List.length_take]; omega) | (rw [Ny127.out, List.length_take, Ny130.out, List.length_set]; omega) | (rw [Ny127.out, List.length_take, Ny123.out, List.length_set]; omega) | (rw [Ny127.out, List.length_take, Ny119.out, List.length_set]; omega) | (rw [Ny127.out, List.length_take, Ny112.out, List.length_set]; omega))
                     rw [← Ny127.out] at hr39
                     rw [← hy39] at hr39 hcut39
                     clear hy39 hi039 hsz39 HO_4
                     have HO129 := Aside0.mk hr39
                     clear hr39
                     replace q39 := eq_true q39
                     have p38 : 0 ≤ ((ji29) : Int) := of_decide_eq_true (by first | (with_reducible assumption) | assumption)
                     have q38 : ((ji29) : Int) < ((y127.length : Int) : Int) := of_decide_eq_true (by first | (with_reducible assumption) | assumption)
                     obtain ⟨go38, co38, eo38, gb38, gl38, cl38, HG38⟩ := Kd.R_form HO129.out (by omega)
                     (first | cases eo38 | (injection eo38 with ea_ en_ ec_; (first | subst ea_ | (injection ea_ with ea_; subst ea_)); subst ec_; clear en_))
                     have GB38 := Aside0.mk gb38
                     have GG38 := Aside0.mk HG38
                     clear gb38 gl38 HG38
                     (first | simp only [add_plain] at hx125_0 | skip)
                     (first | simp only [add_plain] at hx126_0 | skip)
                     obtain ⟨hx38_0, hf38_0⟩ := Kd.R_celln 0 HO129.out ((ji29) : Int) p38 q38
                     replace p38 := eq_true p38
                     replace q38 := eq_true q38
                     have HP40 := Kd.R_putg HO129.out ((ji29) : Int) (Go.bits .and .u64 (rd x4_1 (ji29)) (rd x4_1 (ji32)))
                     go_wp2_with (first | ((with_reducible refine gate_store (t := 53) (p := 86) rfl ?_); (try (rw [drewN_self wc]; generalize hq_ : World.drewN wc _ = wc; have n0_ := Aside0.mk (Kd.R_at hq_ HO129.out); have n1_ := Aside0.mk (below_at hq_ HB.out); clear hq_ HO129 HB; have HO129 := n0_; have HB := n1_; clear n0_ n1_; (try (have HP40 := Kd.R_putg HO129.out ((ji29) : Int) (Go.bits .and .u64 (rd x4_1 (ji29)) (rd x4_1 (ji32))))); (try (obtain ⟨hx38_0, hf38_0⟩ := Kd.R_celln 0 HO129.out ((ji29) : Int) (of_eq_true p38) (of_eq_true q38))))); refine store_event (t := 53) (p := 86) (v := ?vo_w41) (w1 := (wc.setCell ⟨go38, ((ji29) : Int).toNat, none⟩ (.int .u64 (Go.bits .and .u64 (rd x4_1 (ji29)) (rd x4_1 (ji32)))))) ?hg ?ho ?hn ?hr ?_; (case ho => rfl); (case hg => rfl); (case hn => rfl); (case hr => first | (go_simp; done) | (go_simp; rfl)); intro w41 hw; have hg : wc.grownBy w41 (some go38) := (by rw [hw]; exact HP40.2); have hp_ : Kd.R (Kd.int .u64) 53 w41 w.heap.size (fun _ => True) (.slice (some ⟨go38, 0, none⟩) y127.length co16) y130 := (by rw [hw, Ny130.out]; exact HP40.1); clear HP40; have n0_ := Aside0.mk (hp_); have n1_ := Aside0.mk ((by rw [hw]; exact below_set (HB.out) GB38.out : Below w.heap.size w w41)); clear HO129; clear HB; have HO129 := n0_; have HB := n1_; clear n0_ n1_; clear hg hw hp_))
                     repeat (go_quiet (first | ((with_reducible refine gate_store (t := 53) (p := 86) rfl ?_); (try (rw [drewN_self wc]; generalize hq_ : World.drewN wc _ = wc; have n0_ := Aside0.mk (Kd.R_at hq_ HO129.out); have n1_ := Aside0.mk (below_at hq_ HB.out); clear hq_ HO129 HB; have HO129 := n0_; have HB := n1_; clear n0_ n1_; (try (have HP40 := Kd.R_putg HO129.out ((ji29) : Int) (Go.bits .and .u64 (rd x4_1 (ji29)) (rd x4_1 (ji32))))); (try (obtain ⟨hx38_0, hf38_0⟩ := Kd.R_celln 0 HO129.out ((ji29) : Int) (of_eq_true p38) (of_eq_true q38))))); refine store_event (t := 53) (p := 86) (v := ?vo_w41) (w1 := (wc.setCell ⟨go38, ((ji29) : Int).toNat, none⟩ (.int .u64 (Go.bits .and .u64 (rd x4_1 (ji29)) (rd x4_1 (ji32)))))) ?hg ?ho ?hn ?hr ?_; (case ho => rfl); (case hg => rfl); (case hn => rfl); (case hr => first | (go_simp; done) | (go_simp; rfl)); intro w41 hw; have hg : wc.grownBy w41 (some go38) := (by rw [hw]; exact HP40.2); have hp_ : Kd.R (Kd.int .u64) 53 w41 w.heap.size (fun _ => True) (.slice (some ⟨go38, 0, none⟩) y127.length co16) y130 := (by rw [hw, Ny130.out]; exact HP40.1); clear HP40; have n0_ := Aside0.mk (hp_); have n1_ := Aside0.mk ((by rw [hw]; exact below_set (HB.out) GB38.out : Below w.heap.size w w41)); clear HO129; clear HB; have HO129 := n0_; have HB := n1_; clear n0_ n1_; clear hg hw hp_)); try go_wp2_with (first | ((with_reducible refine gate_store (t := 53) (p := 86) rfl ?_); (try (rw [drewN_self wc]; generalize hq_ : World.drewN wc _ = wc; have n0_ := Aside0.mk (Kd.R_at hq_ HO129.out); have n1_ := Aside0.mk (below_at hq_ HB.out); clear hq_ HO129 HB; have HO129 := n0_; have HB := n1_; clear n0_ n1_; (try (have HP40 := Kd.R_putg HO129.out ((ji29) : Int) (Go.bits .and .u64 (rd x4_1 (ji29)) (rd x4_1 (ji32))))); (try (obtain ⟨hx38_0, hf38_0⟩ := Kd.R_celln 0 HO129.out ((ji29) : Int) (of_eq_true p38) (of_eq_true q38))))); refine store_event (t := 53) (p := 86) (v := ?vo_w41) (w1 := (wc.setCell ⟨go38, ((ji29) : Int).toNat, none⟩ (.int .u64 (Go.bits .and .u64 (rd x4_1 (ji29)) (rd x4_1 (ji32)))))) ?hg ?ho ?hn ?hr ?_; (case ho => rfl); (case hg => rfl); (case hn => rfl); (case hr => first | (go_simp; done) | (go_simp; rfl)); intro w41 hw; have hg : wc.grownBy w41 (some go38) := (by rw [hw]; exact HP40.2); have hp_ : Kd.R (Kd.int .u64) 53 w41 w.heap.size (fun _ => True) (.slice (some ⟨go38, 0, none⟩) y127.length co16) y130 := (by rw [hw, Ny130.out]; exact HP40.1); clear HP40; have n0_ := Aside0.mk (hp_); have n1_ := Aside0.mk ((by rw [hw]; exact below_set (HB.out) GB38.out : Below w.heap.size w w41)); clear HO129; clear HB; have HO129 := n0_; have HB := n1_; clear n0_ n1_; clear hg hw hp_)))
                     go_roundg kj24
                     case measure => have := HK1.out; have := HJ14.out; have := HJ24.out; omega
                     case rel => exact ⟨(y130), (wrap64 (x17_1 + 1)), (by first | rfl | (simp; done) | (simp [*]; done)), H', ⟨by have := HK1.out; have := HJ14.out; have := HJ24.out; omega⟩, ⟨by (with_reducible repeat (first | apply Kd.R_alloc | apply Kd.R_drewN | apply Kd.R_drew)); exact HO129.out⟩, ⟨by repeat (first | (with_reducible first | exact HB.out | apply below_alloc | apply pw_below_drewN | apply below_drew1) | exact HB.out)⟩⟩
                    ·rw [if_neg c37] at H
                     exact absurd H (by simp)
                   ·rw [if_neg c36] at H
                    have c36b0 : ((rd l0 x17_1) == (-2)) = false := beq_eq_false_iff_ne.mpr c36
                    have c36b1 : ((rd l0 x17_1) != (-2)) = true := bne_iff_ne.mpr c36
                    by_cases c42 : (rd l0 x17_1) = (-3)
                    ·rw [if_pos c42] at H
                     have c42b0 : ((rd l0 x17_1) == (-3)) = true := beq_iff_eq.mpr c42
                     have c42b1 : ((rd l0 x17_1) != (-3)) = false := bne_eq_false_iff_eq.mpr c42
                     clear c42
                     by_cases c43 : (ji29) < (y127.length : Int)
                     ·rw [if_pos c43] at H
                      have c43b0 : decide ((ji29) < (y127.length : Int)) = true := decide_eq_true c43
                      clear c43
                      obtain ⟨y131, hy131⟩ : ∃ y_ : List Int, y_ = (y127.set ((ji29) : Int).toNat (Go.bits .or .u64 (rd x4_1 (ji29)) (rd x4_1 (ji32)))) := ⟨_, rfl⟩
                      replace H : (impl_rowsOf.l0 kj24 y131 l0 (l0.length : Int) (wrap64 (x17_1 + 1))) = some (r1, r2) := by first | (rw [hy131]; with_reducible exact H) | (have H2_ := (Option.bind_some _ _).symm.trans H; rw [hy131]; with_reducible exact H2_) | (have H2_ := (Option.bind_some _ _).symm.trans H; with_reducible exact H2_) | with_reducible exact H | (rw [hy131]; exact H) | exact H
                      have Ny131 := Aside0.mk hy131
                      clear hy131
                      have H' := Aside0.mk H
                      clear H
                      have p125 : 0 ≤ ((ji29) : Int) := of_decide_eq_true (by first | (with_reducible assumption) | assumption)
                      have q125 : (ji29) < (x4_1.length : Int) := of_decide_eq_true (by first | (with_reducible assumption) | assumption)
                      obtain ⟨ad125, e125, hx125_0⟩ := Kd.at_int (Kd.R_reads' HO_4.out).2.2 (ji29) p125 q125
                      cases e125
                      replace p125 := eq_true p125
                      replace q125 := eq_true q125
                      have p126 : 0 ≤ ((ji32) : Int) := of_decide_eq_true (by first | (with_reducible assumption) | assumption)
                      have q126 : (ji32) < (x4_1.length : Int) := of_decide_eq_true (by first | (with_reducible assumption) | assumption)
                      obtain ⟨ad126, e126, hx126_0⟩ := Kd.at_int (Kd.R_reads' HO_4.out).2.2 (ji32) p126 q126
                      obtain rfl : ad125 = ad126 := (by injection e126)
                      replace p126 := eq_true p126
                      replace q126 := eq_true q126
                      have q45 : ((ji32) : Int) ≤ ((x4_1.length : Int) : Int) := of_decide_eq_true (by first | (with_reducible assumption) | assumption)
                      obtain ⟨i045, hi045, _, hsz45, _⟩ := info_parts info53
                      have hcut45 := cut_to (P := Try.prog) 74 53 .i64 Try.underlying74 hi045 (some ad125) x4_1.length co16 (ji32) (of_decide_eq_true (by first | (with_reducible assumption) | assumption)) q45 (Kd.R_reads' HO_4.out).2.1
                      have hr45 := Kd.R_take (m := ((ji32) : Int).toNat) HO_4.out (by first | omega | (rw [Ny131.out, List.length_set]; omega) | (rw [Ny130.out, List.length_set]; omega) | (rw [Ny127.out, List.length_set]; omega) | (rw [Ny123.out, List.length_set]; omega) | (rw [Ny119.out, List.length_set]; omega) | (rw [Ny112.out, List.length_set]; omega))
                      have hy45 : y127.length = ((ji32) : Int).toNat := (by first | (rw [Ny127.out, List.length_take]; omega) | (rw [Ny127.out, List.length_take, Ny131.out, List.length_set]; omega) | (rw [Ny127.out, List.length_take, Ny130.out, List.length_set]; omega) | (rw [Ny127.out, List.length_take, Ny123.out, List.length_set]; omega) | (rw [Ny127.out, List.length_take, Ny119.out, List.length_set]; omega) | (rw [Ny127.out, List.length_take, Ny112.out, List.length_set]; omega))
                      rw [← Ny127.out] at hr45
                      rw [← hy45] at hr45 hcut45
                      clear hy45 hi045 hsz45 HO_4
                      have HO129 := Aside0.mk hr45
                      clear hr45
                      replace q45 := eq_true q45
                      have p44 : 0 ≤ ((ji29) : Int) := of_decide_eq_true (by first | (with_reducible assumption) | assumption)
                      have q44 : ((ji29) : Int) < ((y127.length : Int) : Int) := of_decide_eq_true (by first | (with_reducible assumption) | assumption)
                      obtain ⟨go44, co44, eo44, gb44, gl44, cl44, HG44⟩ := Kd.R_form HO129.out (by omega)
                      (first | cases eo44 | (injection eo44 with ea_ en_ ec_; (first | subst ea_ | (injection ea_ with ea_; subst ea_)); subst ec_; clear en_))
                      have GB44 := Aside0.mk gb44
                      have GG44 := Aside0.mk HG44
                      clear gb44 gl44 HG44
                      (first | simp only [add_plain] at hx125_0 | skip)
                      (first | simp only [add_plain] at hx126_0 | skip)
                      obtain ⟨hx44_0, hf44_0⟩ := Kd.R_celln 0 HO129.out ((ji29) : Int) p44 q44
                      replace p44 := eq_true p44
                      replace q44 := eq_true q44
                      have HP46 := Kd.R_putg HO129.out ((ji29) : Int) (Go.bits .or .u64 (rd x4_1 (ji29)) (rd x4_1 (ji32)))
                      go_wp2_with (first | ((with_reducible refine gate_store (t := 53) (p := 95) rfl ?_); (try (rw [drewN_self wc]; generalize hq_ : World.drewN wc _ = wc; have n0_ := Aside0.mk (Kd.R_at hq_ HO129.out); have n1_ := Aside0.mk (below_at hq_ HB.out); clear hq_ HO129 HB; have HO129 := n0_; have HB := n1_; clear n0_ n1_; (try (have HP46 := Kd.R_putg HO129.out ((ji29) : Int) (Go.bits .or .u64 (rd x4_1 (ji29)) (rd x4_1 (ji32))))); (try (obtain ⟨hx44_0, hf44_0⟩ := Kd.R_celln 0 HO129.out ((ji29) : Int) (of_eq_true p44) (of_eq_true q44))))); refine store_event (t := 53) (p := 95) (v := ?vo_w47) (w1 := (wc.setCell ⟨go44, ((ji29) : Int).toNat, none⟩ (.int .u64 (Go.bits .or .u64 (rd x4_1 (ji29)) (rd x4_1 (ji32)))))) ?hg ?ho ?hn ?hr ?_; (case ho => rfl); (case hg => rfl); (case hn => rfl); (case hr => first | (go_simp; done) | (go_simp; rfl)); intro w47 hw; have hg : wc.grownBy w47 (some go44) := (by rw [hw]; exact HP46.2); have hp_ : Kd.R (Kd.int .u64) 53 w47 w.heap.size (fun _ => True) (.slice (some ⟨go44, 0, none⟩) y127.length co16) y131 := (by rw [hw, Ny131.out]; exact HP46.1); clear HP46; have n0_ := Aside0.mk (hp_); have n1_ := Aside0.mk ((by rw [hw]; exact below_set (HB.out) GB44.out : Below w.heap.size w w47)); clear HO129; clear HB; have HO129 := n0_; have HB := n1_; clear n0_ n1_; clear hg hw hp_))
                      repeat (go_quiet (first | ((with_reducible refine gate_store (t := 53) (p := 95) rfl ?_); (try (rw [drewN_self wc]; generalize hq_ : World.drewN wc _ = wc; have n0_ := Aside0.mk (Kd.R_at hq_ HO129.out); have n1_ := Aside0.mk (below_at hq_ HB.out); clear hq_ HO129 HB; have HO129 := n0_; have HB := n1_; clear n0_ n1_; (try (have HP46 := Kd.R_putg HO129.out ((ji29) : Int) (Go.bits .or .u64 (rd x4_1 (ji29)) (rd x4_1 (ji32))))); (try (obtain ⟨hx44_0, hf44_0⟩ := Kd.R_celln 0 HO129.out ((ji29) : Int) (of_eq_true p44) (of_eq_true q44))))); refine store_event (t := 53) (p := 95) (v := ?vo_w47) (w1 := (wc.setCell ⟨go44, ((ji29) : Int).toNat, none⟩ (.int .u64 (Go.bits .or .u64 (rd x4_1 (ji29)) (rd x4_1 (ji32)))))) ?hg ?ho ?hn ?hr ?_; (case ho => rfl); (case hg => rfl); (case hn => rfl); (case hr => first | (go_simp; done) | (go_simp; rfl)); intro w47 hw; have hg : wc.grownBy w47 (some go44) := (by rw [hw]; exact HP46.2); have hp_ : Kd.R (Kd.int .u64) 53 w47 w.heap.size (fun _ => True) (.slice (some ⟨go44, 0, none⟩) y127.length co16) y131 := (by rw [hw, Ny131.out]; exact HP46.1); clear HP46; have n0_ := Aside0.mk (hp_); have n1_ := Aside0.mk ((by rw [hw]; exact below_set (HB.out) GB44.out : Below w.heap.size w w47)); clear HO129; clear HB; have HO129 := n0_; have HB := n1_; clear n0_ n1_; clear hg hw hp_)); try go_wp2_with (first | ((with_reducible refine gate_store (t := 53) (p := 95) rfl ?_); (try (rw [drewN_self wc]; generalize hq_ : World.drewN wc _ = wc; have n0_ := Aside0.mk (Kd.R_at hq_ HO129.out); have n1_ := Aside0.mk (below_at hq_ HB.out); clear hq_ HO129 HB; have HO129 := n0_; have HB := n1_; clear n0_ n1_; (try (have HP46 := Kd.R_putg HO129.out ((ji29) : Int) (Go.bits .or .u64 (rd x4_1 (ji29)) (rd x4_1 (ji32))))); (try (obtain ⟨hx44_0, hf44_0⟩ := Kd.R_celln 0 HO129.out ((ji29) : Int) (of_eq_true p44) (of_eq_true q44))))); refine store_event (t := 53) (p := 95) (v := ?vo_w47) (w1 := (wc.setCell ⟨go44, ((ji29) : Int).toNat, none⟩ (.int .u64 (Go.bits .or .u64 (rd x4_1 (ji29)) (rd x4_1 (ji32)))))) ?hg ?ho ?hn ?hr ?_; (case ho => rfl); (case hg => rfl); (case hn => rfl); (case hr => first | (go_simp; done) | (go_simp; rfl)); intro w47 hw; have hg : wc.grownBy w47 (some go44) := (by rw [hw]; exact HP46.2); have hp_ : Kd.R (Kd.int .u64) 53 w47 w.heap.size (fun _ => True) (.slice (some ⟨go44, 0, none⟩) y127.length co16) y131 := (by rw [hw, Ny131.out]; exact HP46.1); clear HP46; have n0_ := Aside0.mk (hp_); have n1_ := Aside0.mk ((by rw [hw]; exact below_set (HB.out) GB44.out : Below w.heap.size w w47)); clear HO129; clear HB; have HO129 := n0_; have HB := n1_; clear n0_ n1_; clear hg hw hp_)))
                      go_roundg kj24
                      case measure => have := HK1.out; have := HJ14.out; have := HJ24.out; omega
                      case rel => exact ⟨(y131), (wrap64 (x17_1 + 1)), (by first | rfl | (simp; done) | (simp [*]; done)), H', ⟨by have := HK1.out; have := HJ14.out; have := HJ24.out; omega⟩, ⟨by (with_reducible repeat (first | apply Kd.R_alloc | apply Kd.R_drewN | apply Kd.R_drew)); exact HO129.out⟩, ⟨by repeat (first | (with_reducible first | exact HB.out | apply below_alloc | apply pw_below_drewN | apply below_drew1) | exact HB.out)⟩⟩
                     ·rw [if_neg c43] at H
                      exact absurd H (by simp)
                    ·rw [if_neg c42] at H
                     have c42b0 : ((rd l0 x17_1) == (-3)) = false := beq_eq_false_iff_ne.mpr c42
                     have c42b1 : ((rd l0 x17_1) != (-3)) = true := bne_iff_ne.mpr c42
                     by_cases c48 : (ji29) < (y127.length : Int)
                     ·rw [if_pos c48] at H
                      have c48b0 : decide ((ji29) < (y127.length : Int)) = true := decide_eq_true c48
                      clear c48
                      obtain ⟨y132, hy132⟩ : ∃ y_ : List Int, y_ = (y127.set ((ji29) : Int).toNat (Go.bits .or .u64 (Go.bits .xor .u64 18446744073709551615 (rd x4_1 (ji29))) (rd x4_1 (ji32)))) := ⟨_, rfl⟩
                      replace H : (impl_rowsOf.l0 kj24 y132 l0 (l0.length : Int) (wrap64 (x17_1 + 1))) = some (r1, r2) := by first | (rw [hy132]; with_reducible exact H) | (have H2_ := (Option.bind_some _ _).symm.trans H; rw [hy132]; with_reducible exact H2_) | (have H2_ := (Option.bind_some _ _).symm.trans H; with_reducible exact H2_) | with_reducible exact H | (rw [hy132]; exact H) | exact H
                      have Ny132 := Aside0.mk hy132
                      clear hy132
                      have H' := Aside0.mk H
                      clear H
                      have p125 : 0 ≤ ((ji29) : Int) := of_decide_eq_true (by first | (with_reducible assumption) | assumption)
                      have q125 : (ji29) < (x4_1.length : Int) := of_decide_eq_true (by first | (with_reducible assumption) | assumption)
                      obtain ⟨ad125, e125, hx125_0⟩ := Kd.at_int (Kd.R_reads' HO_4.out).2.2 (ji29) p125 q125
                      cases e125
                      replace p125 := eq_true p125
                      replace q125 := eq_true q125
                      have p126 : 0 ≤ ((ji32) : Int) := of_decide_eq_true (by first | (with_reducible assumption) | assumption)
                      have q126 : (ji32) < (x4_1.length : Int) := of_decide_eq_true (by first | (with_reducible assumption) | assumption)
                      obtain ⟨ad126, e126, hx126_0⟩ := Kd.at_int (Kd.R_reads' HO_4.out).2.2 (ji32) p126 q126
                      obtain rfl : ad125 = ad126 := (by injection e126)
                      replace p126 := eq_true p126
                      replace q126 := eq_true q126
                      have q50 : ((ji32) : Int) ≤ ((x4_1.length : Int) : Int) := of_decide_eq_true (by first | (with_reducible assumption) | assumption)
                      obtain ⟨i050, hi050, _, hsz50, _⟩ := info_parts info53
                      have hcut50 := cut_to (P := Try.prog) 74 53 .i64 Try.underlying74 hi050 (some ad125) x4_1.length co16 (ji32) (of_decide_eq_true (by first | (with_reducible assumption) | assumption)) q50 (Kd.R_reads' HO_4.out).2.1
                      have hr50 := Kd.R_take (m := ((ji32) : Int).toNat) HO_4.out (by first | omega | (rw [Ny132.out, List.length_set]; omega) | (rw [Ny131.out, List.length_set]; omega) | (rw [Ny130.out, List.length_set]; omega) | (rw [Ny127.out, List.length_set]; omega) | (rw [Ny123.out, List.length_set]; omega) | (rw [Ny119.out, List.length_set]; omega) | (rw [Ny112.out, List.length_set]; omega))
                      have hy50 : y127.length = ((ji32) : Int).toNat := (by first | (rw [Ny127.out, List.length_take]; omega) | (rw [Ny127.out, List.length_take, Ny132.out, List.length_set]; omega) | (rw [Ny127.out, List.length_take, Ny131.out, List.length_set]; omega) | (rw [Ny127.out, List.length_take, Ny130.out, List.length_set]; omega) | (rw [Ny127.out, List.length_take, Ny123.out, List.length_set]; omega) | (rw [Ny127.out, List.length_take, Ny119.out, List.length_set]; omega) | (rw [Ny127.out, List.length_take, Ny112.out, List.length_set]; omega))
                      rw [← Ny127.out] at hr50
                      rw [← hy50] at hr50 hcut50
                      clear hy50 hi050 hsz50 HO_4
                      have HO129 := Aside0.mk hr50
                      clear hr50
                      replace q50 := eq_true q50
                      have p49 : 0 ≤ ((ji29) : Int) := of_decide_eq_true (by first | (with_reducible assumption) | assumption)
                      have q49 : ((ji29) : Int) < ((y127.length : Int) : Int) := of_decide_eq_true (by first | (with_reducible assumption) | assumption)
                      obtain ⟨go49, co49, eo49, gb49, gl49, cl49, HG49⟩ := Kd.R_form HO129.out (by omega)
                      (first | cases eo49 | (injection eo49 with ea_ en_ ec_; (first | subst ea_ | (injection ea_ with ea_; subst ea_)); subst ec_; clear en_))
                      have GB49 := Aside0.mk gb49
                      have GG49 := Aside0.mk HG49
                      clear gb49 gl49 HG49
                      (first | simp only [add_plain] at hx125_0 | skip)
                      (first | simp only [add_plain] at hx126_0 | skip)
                      obtain ⟨hx49_0, hf49_0⟩ := Kd.R_celln 0 HO129.out ((ji29) : Int) p49 q49
                      replace p49 := eq_true p49
                      replace q49 := eq_true q49
                      have HP51 := Kd.R_putg HO129.out ((ji29) : Int) (Go.bits .or .u64 (Go.bits .xor .u64 18446744073709551615 (rd x4_1 (ji29))) (rd x4_1 (ji32)))
                      go_wp2_with (first | ((with_reducible refine gate_store (t := 53) (p := 77) rfl ?_); (try (rw [drewN_self wc]; generalize hq_ : World.drewN wc _ = wc; have n0_ := Aside0.mk (Kd.R_at hq_ HO129.out); have n1_ := Aside0.mk (below_at hq_ HB.out); clear hq_ HO129 HB; have HO129 := n0_; have HB := n1_; clear n0_ n1_; (try (have HP51 := Kd.R_putg HO129.out ((ji29) : Int) (Go.bits .or .u64 (Go.bits .xor .u64 18446744073709551615 (rd x4_1 (ji29))) (rd x4_1 (ji32))))); (try (obtain ⟨hx49_0, hf49_0⟩ := Kd.R_celln 0 HO129.out ((ji29) : Int) (of_eq_true p49) (of_eq_true q49))))); refine store_event (t := 53) (p := 77) (v := ?vo_w52) (w1 := (wc.setCell ⟨go49, ((ji29) : Int).toNat, none⟩ (.int .u64 (Go.bits .or .u64 (Go.bits .xor .u64 18446744073709551615 (rd x4_1 (ji29))) (rd x4_1 (ji32)))))) ?hg ?ho ?hn ?hr ?_; (case ho => rfl); (case hg => rfl); (case hn => rfl); (case hr => first | (go_simp; done) | (go_simp; rfl)); intro w52 hw; have hg : wc.grownBy w52 (some go49) := (by rw [hw]; exact HP51.2); have hp_ : Kd.R (Kd.int .u64) 53 w52 w.heap.size (fun _ => True) (.slice (some ⟨go49, 0, none⟩) y127.length co16) y132 := (by rw [hw, Ny132.out]; exact HP51.1); clear HP51; have n0_ := Aside0.mk (hp_); have n1_ := Aside0.mk ((by rw [hw]; exact below_set (HB.out) GB49.out : Below w.heap.size w w52)); clear HO129; clear HB; have HO129 := n0_; have HB := n1_; clear n0_ n1_; clear hg hw hp_))
                      repeat (go_quiet (first | ((with_reducible refine gate_store (t := 53) (p := 77) rfl ?_); (try (rw [drewN_self wc]; generalize hq_ : World.drewN wc _ = wc; have n0_ := Aside0.mk (Kd.R_at hq_ HO129.out); have n1_ := Aside0.mk (below_at hq_ HB.out); clear hq_ HO129 HB; have HO129 := n0_; have HB := n1_; clear n0_ n1_; (try (have HP51 := Kd.R_putg HO129.out ((ji29) : Int) (Go.bits .or .u64 (Go.bits .xor .u64 18446744073709551615 (rd x4_1 (ji29))) (rd x4_1 (ji32))))); (try (obtain ⟨hx49_0, hf49_0⟩ := Kd.R_celln 0 HO129.out ((ji29) : Int) (of_eq_true p49) (of_eq_true q49))))); refine store_event (t := 53) (p := 77) (v := ?vo_w52) (w1 := (wc.setCell ⟨go49, ((ji29) : Int).toNat, none⟩ (.int .u64 (Go.bits .or .u64 (Go.bits .xor .u64 18446744073709551615 (rd x4_1 (ji29))) (rd x4_1 (ji32)))))) ?hg ?ho ?hn ?hr ?_; (case ho => rfl); (case hg => rfl); (case hn => rfl); (case hr => first | (go_simp; done) | (go_simp; rfl)); intro w52 hw; have hg : wc.grownBy w52 (some go49) := (by rw [hw]; exact HP51.2); have hp_ : Kd.R (Kd.int .u64) 53 w52 w.heap.size (fun _ => True) (.slice (some ⟨go49, 0, none⟩) y127.length co16) y132 := (by rw [hw, Ny132.out]; exact HP51.1); clear HP51; have n0_ := Aside0.mk (hp_); have n1_ := Aside0.mk ((by rw [hw]; exact below_set (HB.out) GB49.out : Below w.heap.size w w52)); clear HO129; clear HB; have HO129 := n0_; have HB := n1_; clear n0_ n1_; clear hg hw hp_)); try go_wp2_with (first | ((with_reducible refine gate_store (t := 53) (p := 77) rfl ?_); (try (rw [drewN_self wc]; generalize hq_ : World.drewN wc _ = wc; have n0_ := Aside0.mk (Kd.R_at hq_ HO129.out); have n1_ := Aside0.mk (below_at hq_ HB.out); clear hq_ HO129 HB; have HO129 := n0_; have HB := n1_; clear n0_ n1_; (try (have HP51 := Kd.R_putg HO129.out ((ji29) : Int) (Go.bits .or .u64 (Go.bits .xor .u64 18446744073709551615 (rd x4_1 (ji29))) (rd x4_1 (ji32))))); (try (obtain ⟨hx49_0, hf49_0⟩ := Kd.R_celln 0 HO129.out ((ji29) : Int) (of_eq_true p49) (of_eq_true q49))))); refine store_event (t := 53) (p := 77) (v := ?vo_w52) (w1 := (wc.setCell ⟨go49, ((ji29) : Int).toNat, none⟩ (.int .u64 (Go.bits .or .u64 (Go.bits .xor .u64 18446744073709551615 (rd x4_1 (ji29))) (rd x4_1 (ji32)))))) ?hg ?ho ?hn ?hr ?_; (case ho => rfl); (case hg => rfl); (case hn => rfl); (case hr => first | (go_simp; done) | (go_simp; rfl)); intro w52 hw; have hg : wc.grownBy w52 (some go49) := (by rw [hw]; exact HP51.2); have hp_ : Kd.R (Kd.int .u64) 53 w52 w.heap.size (fun _ => True) (.slice (some ⟨go49, 0, none⟩) y127.length co16) y132 := (by rw [hw, Ny132.out]; exact HP51.1); clear HP51; have n0_ := Aside0.mk (hp_); have n1_ := Aside0.mk ((by rw [hw]; exact below_set (HB.out) GB49.out : Below w.heap.size w w52)); clear HO129; clear HB; have HO129 := n0_; have HB := n1_; clear n0_ n1_; clear hg hw hp_)))
                      go_roundg kj24
                      case measure => have := HK1.out; have := HJ14.out; have := HJ24.out; omega
                      case rel => exact ⟨(y132), (wrap64 (x17_1 + 1)), (by first | rfl | (simp; done) | (simp [*]; done)), H', ⟨by have := HK1.out; have := HJ14.out; have := HJ24.out; omega⟩, ⟨by (with_reducible repeat (first | apply Kd.R_alloc | apply Kd.R_drewN | apply Kd.R_drew)); exact HO129.out⟩, ⟨by repeat (first | (with_reducible first | exact HB.out | apply below_alloc | apply pw_below_drewN | apply below_drew1) | exact HB.out)⟩⟩
                     ·rw [if_neg c48] at H
                      exact absurd H (by simp)
                  ·rw [if_neg c35] at H
                   exact absurd H (by simp)
                 ·rw [if_neg c34] at H
                  exact absurd H (by simp)
                ·rw [if_neg c33] at H
                 exact absurd H (by simp)
               ·rw [if_neg c31] at H
                exact absurd H (by simp)
              ·rw [if_neg c30] at H
               exact absurd H (by simp)
             ·replace c28 := Bool.eq_false_iff.mpr c28
              subst c28
              have H1 : (some (0, false)) = some (r1, r2) := by rw [if_neg (show ¬ (false = true) by decide)] at H; exact H
              clear H
              have H := H1
              clear H1
              simp only [Option.some.injEq, Prod.mk.injEq] at H
              obtain ⟨rfl, rfl⟩ := H
              go_wp2
              repeat (go_quiet (fail); try go_wp2)
              go_ret2
              exact ⟨by first | rfl | (simp [errW_none, errW_some] <;> rfl) | (simp [*, errW_none, errW_some] <;> rfl), by repeat (first | (with_reducible first | exact HB.out | apply below_alloc | apply pw_below_drewN | apply below_drew1) | exact HB.out)⟩
      ·rw [if_neg c8] at H
       exact absurd H (by simp)
     ·rw [if_neg c7] at H
      exact absurd H (by simp)
    ·rw [if_neg c6] at H
     have c6b0 : decide (x17_1 < (l0.length : Int)) = false := decide_eq_false c6
     clear c6
     by_cases c53 : 0 < (x4_1.length : Int)
     ·rw [if_pos c53] at H
      have c53b0 : decide (0 < (x4_1.length : Int)) = true := decide_eq_true c53
      have c53b1 : decide (0 < x4_1.length) = true := decide_eq_true (by omega)
      clear c53
      simp only [Option.some.injEq, Prod.mk.injEq] at H
      obtain ⟨rfl, rfl⟩ := H
      obtain ⟨Ao54, co54, eo54⟩ := Kd.R_slice HO_4.out
      subst eo54
      have p115 : 0 ≤ (0 : Int) := (by omega)
      have q115 : 0 < (x4_1.length : Int) := of_decide_eq_true (by first | (with_reducible assumption) | assumption)
      obtain ⟨ad115, e115, hx115_0⟩ := Kd.at_int (Kd.R_reads' HO_4.out).2.2 0 p115 q115
      cases e115
      have qi115 : (0 < x4_1.length) = True := eq_true (by omega)
      (try rw [show ((0 : Int)).toNat = 0 from rfl] at hx115_0)
      (try rw [Addr.add_zero'] at hx115_0)
      replace p115 := eq_true p115
      replace q115 := eq_true q115
      go_wp2
      repeat (go_quiet (fail); try go_wp2)
      go_ret2
      exact ⟨by first | rfl | (simp [errW_none, errW_some] <;> rfl) | (simp [*, errW_none, errW_some] <;> rfl), by repeat (first | (with_reducible first | exact HB.out | apply below_alloc | apply pw_below_drewN | apply below_drew1) | exact HB.out)⟩
     ·rw [if_neg c53] at H
      exact absurd H (by simp)
 ·replace c3 := Bool.eq_false_iff.mpr c3
  subst c3
  have H1 : (some (0, false)) = some (r1, r2) := by rw [if_neg (show ¬ (false = true) by decide)] at H; exact H
  clear H
  have H := H1
  clear H1
  simp only [Option.some.injEq, Prod.mk.injEq] at H
  obtain ⟨rfl, rfl⟩ := H
  go_enter Try.func61, Try.ntmps61
  go_wp2_with (first | (go_at_call 73; (with_reducible refine (impl_InRange.calls (l0.length : Int) 1 24 false _ A2.out).mono ?_); rintro e w' ⟨rfl, ⟨nd, rfl⟩⟩; (try first | exact ⟨rfl, _, World.drewN_drewN _ _ _⟩ | exact ⟨rfl, _, Eq.trans (World.drewN_drewN _ _ _) (congrArg (World.drewN _) (Nat.add_assoc _ _ _))⟩)))
  repeat (go_quiet (first | (go_at_call 73; (with_reducible refine (impl_InRange.calls (l0.length : Int) 1 24 false _ A2.out).mono ?_); rintro e w' ⟨rfl, ⟨nd, rfl⟩⟩; (try first | exact ⟨rfl, _, World.drewN_drewN _ _ _⟩ | exact ⟨rfl, _, Eq.trans (World.drewN_drewN _ _ _) (congrArg (World.drewN _) (Nat.add_assoc _ _ _))⟩))); try go_wp2_with (first | (go_at_call 73; (with_reducible refine (impl_InRange.calls (l0.length : Int) 1 24 false _ A2.out).mono ?_); rintro e w' ⟨rfl, ⟨nd, rfl⟩⟩; (try first | exact ⟨rfl, _, World.drewN_drewN _ _ _⟩ | exact ⟨rfl, _, Eq.trans (World.drewN_drewN _ _ _) (congrArg (World.drewN _) (Nat.add_assoc _ _ _))⟩))))
  go_ret2
  exact ⟨by first | rfl | (simp [errW_none, errW_some] <;> rfl) | (simp [*, errW_none, errW_some] <;> rfl), by repeat (first | (with_reducible first | exact HB.out | apply below_alloc | apply pw_below_drewN | apply below_drew1) | exact HB.out)⟩

/-! ### impl_rowsOfAll: function 67 -/
def impl_rowsOfAll.l0 : Nat → Int → Bool → List (List Int) → Int → Int → Option (Int × Bool)
 | 0, _, _, _, _, _ => none
 | k + 1, x4, x5, x10, x11, x12 => if x12 < x11 then (if 0 ≤ x12 then (if x12 < (x10.length : Int) then ((impl_rowsOf.f k (rd_L1 x10 x12)).bind fun bt134 => (if x5 = true then (impl_rowsOfAll.l0 k (Go.bits .and .u64 x4 bt134.1) bt134.2 x10 x11 (wrap64 (x12 + 1))) else (impl_rowsOfAll.l0 k (Go.bits .and .u64 x4 bt134.1) false x10 x11 (wrap64 (x12 + 1))))) else (none)) else (none)) else (some (x4, x5))
def impl_rowsOfAll.f (k : Nat) (l0 : List (List Int)) : Option (Int × Bool) := impl_rowsOfAll.l0 k 18446744073709551615 true l0 (l0.length : Int) 0
theorem impl_rowsOfAll.mono_l : ∀ k, (∀ y0 y1 y2 y3 y4, LeO (impl_rowsOfAll.l0 k y0 y1 y2 y3 y4) (impl_rowsOfAll.l0 (k + 1) y0 y1 y2 y3 y4))
 | 0 => fun _ _ _ _ _ r h => by simp [impl_rowsOfAll.l0] at h
 | k + 1 => by
  have ih0 := impl_rowsOfAll.mono_l k
  ·intro y0 y1 y2 y3 y4
   unfold impl_rowsOfAll.l0
   repeat' first
   | (with_reducible exact ih0 _ _ _ _ _)
   | (with_reducible exact impl_rowsOf.mono _ _)
   | (with_reducible exact LeO.refl _)
   | (with_reducible exact LeO.none _)
   | (with_reducible refine LeO.ite ?_ ?_)
   | (with_reducible refine LeO.bind ?_ (fun _ => ?_))
   | exact ih0 _ _ _ _ _
   | exact impl_rowsOf.mono _ _
   | exact LeO.none _
   | refine LeO.ite ?_ ?_
   | refine LeO.bind ?_ (fun _ => ?_)
theorem impl_rowsOfAll.mono : ∀ a0 k, LeO (impl_rowsOfAll.f k a0) (impl_rowsOfAll.f (k + 1) a0) := by
 intro a0 k
 have ih0 := impl_rowsOfAll.mono_l k
 unfold impl_rowsOfAll.f
 repeat' first
   | (with_reducible exact ih0 _ _ _ _ _)
   | (with_reducible exact impl_rowsOf.mono _ _)
   | (with_reducible exact LeO.refl _)
   | (with_reducible exact LeO.none _)
   | (with_reducible refine LeO.ite ?_ ?_)
   | (with_reducible refine LeO.bind ?_ (fun _ => ?_))
   | exact ih0 _ _ _ _ _
   | exact impl_rowsOf.mono _ _
   | exact LeO.none _
   | refine LeO.ite ?_ ?_
   | refine LeO.bind ?_ (fun _ => ?_)
set_option maxHeartbeats 8000000 in
set_option maxRecDepth 100000 in
theorem impl_rowsOfAll.calls (k : Nat) (A0 : Option Addr) (c0 : Nat) (l0 : List (List Int)) (r1 : Int) (r2 : Bool) (w : World) (hr0 : Kd.C (Kd.slice 3 (Kd.int .i64)) w A0 l0.length l0) (hc0 : l0.length ≤ c0) (h : impl_rowsOfAll.f k l0 = some (r1, r2)) :
  Calls Try.prog 67 #[.slice A0 l0.length c0] w fun e w' => e = .returned (.tuple #[.int .u64 r1, .bool r2]) ∧ Below w.heap.size w w' := by
 have HR0 := Aside0.mk hr0
 have HC0 := Aside0.mk hc0
 clear hr0 hc0
 have HB := Aside0.mk (Below.refl w.heap.size w)
 have H : (impl_rowsOfAll.l0 k 18446744073709551615 true l0 (l0.length : Int) 0) = some (r1, r2) := h
 clear h
 have H' := Aside0.mk H
 clear H
 go_enter Try.func67, Try.ntmps67
 go_wp2
 go_loopg [4, 5, 12] k (fun kq v4 v5 v12 w' => ∃ (x4_1 : Int) (x5_1 : Bool) (x12_1 : Int), v4 = .int .u64 x4_1 ∧ v5 = .bool x5_1 ∧ v12 = .int .i64 x12_1 ∧ Aside0 (impl_rowsOfAll.l0 kq x4_1 x5_1 l0 (l0.length : Int) x12_1 = some (r1, r2)) ∧ Aside0 (kq ≤ k) ∧ Aside0 (Below w.heap.size w w'))
 case atStart => exact ⟨(18446744073709551615), (true), (0), (by first | rfl | (simp; done) | (simp [*]; done)), (by first | rfl | (simp; done) | (simp [*]; done)), (by first | rfl | (simp; done) | (simp [*]; done)), H', ⟨Nat.le_refl _⟩, ⟨by repeat (first | (with_reducible first | exact HB.out | apply below_alloc | apply pw_below_drewN | apply below_drew1) | exact HB.out)⟩⟩
 case round =>
  clear H'
  obtain ⟨x4_1, x5_1, x12_1, rfl, rfl, rfl, HA, HK1, HB⟩ := hrel
  cases gk with
  | zero => exact absurd HA.out (by simp [impl_rowsOfAll.l0])
  | succ k1 =>
   have H := HA.out
   clear HA
   simp only [impl_rowsOfAll.l0] at H
   by_cases c2 : x12_1 < (l0.length : Int)
   ·rw [if_pos c2] at H
    have c2b0 : decide (x12_1 < (l0.length : Int)) = true := decide_eq_true c2
    clear c2
    by_cases c3 : 0 ≤ x12_1
    ·rw [if_pos c3] at H
     have c3b0 : decide (0 ≤ x12_1) = true := decide_eq_true c3
     clear c3
     by_cases c4 : x12_1 < (l0.length : Int)
     ·rw [if_pos c4] at H
      have c4b0 : decide (x12_1 < (l0.length : Int)) = true := decide_eq_true c4
      clear c4
      replace H := Option.bind_eq_some_iff.mp H
      obtain ⟨⟨t134, t135⟩, A50, H⟩ := H
      replace H : (if x5_1 = true then (impl_rowsOfAll.l0 k1 (Go.bits .and .u64 x4_1 t134) t135 l0 (l0.length : Int) (wrap64 (x12_1 + 1))) else (impl_rowsOfAll.l0 k1 (Go.bits .and .u64 x4_1 t134) false l0 (l0.length : Int) (wrap64 (x12_1 + 1)))) = some (r1, r2) := H
      have A5 := Aside0.mk A50
      clear A50
      by_cases c6 : x5_1 = true
      ·subst c6
       have H1 : (impl_rowsOfAll.l0 k1 (Go.bits .and .u64 x4_1 t134) t135 l0 (l0.length : Int) (wrap64 (x12_1 + 1))) = some (r1, r2) := by rw [if_pos rfl] at H; exact H
       clear H
       have H := H1
       clear H1
       have H' := Aside0.mk H
       clear H
       have p133 : 0 ≤ (x12_1 : Int) := of_decide_eq_true (by first | (with_reducible assumption) | assumption)
       have q133 : x12_1 < (l0.length : Int) := of_decide_eq_true (by first | (with_reducible assumption) | assumption)
       obtain ⟨ad133, A133_0, c133_0, e133, hx133_0, hl133_0, hi133_0⟩ := at_L1 HR0.out x12_1 p133 q133
       cases e133
       replace hx133_0 := (HB.out.cell (World.block_lt_of_cell? w _ hx133_0)).trans hx133_0
       have HR133_0 := Aside0.mk hi133_0
       have HC133_0 := Aside0.mk hl133_0
       clear hi133_0 hl133_0
       replace p133 := eq_true p133
       replace q133 := eq_true q133
       go_wp2_with (first | ((with_reducible refine gate_callee (f := 61) rfl ?_); refine goesL_ (some 18) rfl rfl Try.func61 (by kernel_rfl) rfl #[.slice A133_0 (rd_L1 l0 x12_1).length c133_0] rfl (by (try simp only [List.map_toArray, List.map_cons, List.map_nil]); first | done | rfl | (simp only [List.length_drop, List.length_take]; rfl)) ?_; (with_reducible refine (impl_rowsOf.calls k1 _ _ (rd_L1 l0 x12_1) t134 t135 _ ?side1 ?side2 A5.out).mono ?_); (case side1 => repeat (first | exact (Kd.C_below HR133_0.out HB.out) | (with_reducible refine Kd.C_alloc ?_ _) | (with_reducible refine Kd.C_drewN ?_ _) | (with_reducible refine Kd.C_drew ?_))); (case side2 => exact HC133_0.out); rintro e w7 ⟨rfl, hb⟩; refine ⟨_, rfl, ?_⟩; have n0_ := Aside0.mk (below_step (by repeat (first | (with_reducible first | exact HB.out | apply below_alloc | apply pw_below_drewN | apply below_drew1) | exact HB.out)) hb); clear HB; have HB := n0_; clear n0_; (try clear hb); (try clear hb2); (try clear hk); (try clear hi)))
       go_roundg k1
       case measure => have := HK1.out; omega
       case rel => exact ⟨(Go.bits .and .u64 x4_1 t134), (t135), (wrap64 (x12_1 + 1)), (by first | rfl | (simp; done) | (simp [*]; done)), (by first | rfl | (simp; done) | (simp [*]; done)), (by first | rfl | (simp; done) | (simp [*]; done)), H', ⟨by have := HK1.out; omega⟩, ⟨by repeat (first | (with_reducible first | exact HB.out | apply below_alloc | apply pw_below_drewN | apply below_drew1) | exact HB.out)⟩⟩
      ·replace c6 := Bool.eq_false_iff.mpr c6
       subst c6
       have H1 : (impl_rowsOfAll.l0 k1 (Go.bits .and .u64 x4_1 t134) false l0 (l0.length : Int) (wrap64 (x12_1 + 1))) = some (r1, r2) := by rw [if_neg (show ¬ (false = true) by decide)] at H; exact H
       clear H
       have H := H1
       clear H1
       have H' := Aside0.mk H
       clear H
       have p133 : 0 ≤ (x12_1 : Int) := of_decide_eq_true (by first | (with_reducible assumption) | assumption)
       have q133 : x12_1 < (l0.length : Int) := of_decide_eq_true (by first | (with_reducible assumption) | assumption)
       obtain ⟨ad133, A133_0, c133_0, e133, hx133_0, hl133_0, hi133_0⟩ := at_L1 HR0.out x12_1 p133 q133
       cases e133
       replace hx133_0 := (HB.out.cell (World.block_lt_of_cell? w _ hx133_0)).trans hx133_0
       have HR133_0 := Aside0.mk hi133_0
       have HC133_0 := Aside0.mk hl133_0
       clear hi133_0 hl133_0
       replace p133 := eq_true p133
       replace q133 := eq_true q133
       go_wp2_with (first | ((with_reducible refine gate_callee (f := 61) rfl ?_); refine goesL_ (some 18) rfl rfl Try.func61 (by kernel_rfl) rfl #[.slice A133_0 (rd_L1 l0 x12_1).length c133_0] rfl (by (try simp only [List.map_toArray, List.map_cons, List.map_nil]); first | done | rfl | (simp only [List.length_drop, List.length_take]; rfl)) ?_; (with_reducible refine (impl_rowsOf.calls k1 _ _ (rd_L1 l0 x12_1) t134 t135 _ ?side1 ?side2 A5.out).mono ?_); (case side1 => repeat (first | exact (Kd.C_below HR133_0.out HB.out) | (with_reducible refine Kd.C_alloc ?_ _) | (with_reducible refine Kd.C_drewN ?_ _) | (with_reducible refine Kd.C_drew ?_))); (case side2 => exact HC133_0.out); rintro e w8 ⟨rfl, hb⟩; refine ⟨_, rfl, ?_⟩; have n0_ := Aside0.mk (below_step (by repeat (first | (with_reducible first | exact HB.out | apply below_alloc | apply pw_below_drewN | apply below_drew1) | exact HB.out)) hb); clear HB; have HB := n0_; clear n0_; (try clear hb); (try clear hb2); (try clear hk); (try clear hi)))
       go_roundg k1
       case measure => have := HK1.out; omega
       case rel => exact ⟨(Go.bits .and .u64 x4_1 t134), (false), (wrap64 (x12_1 + 1)), (by first | rfl | (simp; done) | (simp [*]; done)), (by first | rfl | (simp; done) | (simp [*]; done)), (by first | rfl | (simp; done) | (simp [*]; done)), H', ⟨by have := HK1.out; omega⟩, ⟨by repeat (first | (with_reducible first | exact HB.out | apply below_alloc | apply pw_below_drewN | apply below_drew1) | exact HB.out)⟩⟩
     ·rw [if_neg c4] at H
      exact absurd H (by simp)
    ·rw [if_neg c3] at H
     exact absurd H (by simp)
   ·rw [if_neg c2] at H
    have c2b0 : decide (x12_1 < (l0.length : Int)) = false := decide_eq_false c2
    clear c2
    simp only [Option.some.injEq, Prod.mk.injEq] at H
    obtain ⟨rfl, rfl⟩ := H
    go_wp2
    go_ret2
    exact ⟨by first | rfl | (simp [errW_none, errW_some] <;> rfl) | (simp [*, errW_none, errW_some] <;> rfl), by repeat (first | (with_reducible first | exact HB.out | apply below_alloc | apply pw_below_drewN | apply below_drew1) | exact HB.out)⟩

/-! ### impl_CanHold: function 34 -/
def impl_CanHold.f (k : Nat) (l0 : List (List Int)) : Option (Bool) := (impl_rowsOfAll.f k l0).bind fun bt136 => (if bt136.2 = true then (some (bt136.1 != 0)) else (some false))
theorem impl_CanHold.mono : ∀ a0 k, LeO (impl_CanHold.f k a0) (impl_CanHold.f (k + 1) a0) := by
 intro a0 k
 unfold impl_CanHold.f
 repeat' first
   | (with_reducible exact impl_rowsOfAll.mono _ _)
   | (with_reducible exact LeO.refl _)
   | (with_reducible exact LeO.none _)
   | (with_reducible refine LeO.ite ?_ ?_)
   | (with_reducible refine LeO.bind ?_ (fun _ => ?_))
   | exact impl_rowsOfAll.mono _ _
   | exact LeO.none _
   | refine LeO.ite ?_ ?_
   | refine LeO.bind ?_ (fun _ => ?_)
set_option maxHeartbeats 8000000 in
set_option maxRecDepth 100000 in
theorem impl_CanHold.calls (k : Nat) (A0 : Option Addr) (c0 : Nat) (l0 : List (List Int)) (r : Bool) (w : World) (hr0 : Kd.C (Kd.slice 3 (Kd.int .i64)) w A0 l0.length l0) (hc0 : l0.length ≤ c0) (h : impl_CanHold.f k l0 = some r) :
  Calls Try.prog 34 #[.slice A0 l0.length c0] w fun e w' => e = .returned (.bool r) ∧ Below w.heap.size w w' := by
 have HR0 := Aside0.mk hr0
 have HC0 := Aside0.mk hc0
 clear hr0 hc0
 have HB := Aside0.mk (Below.refl w.heap.size w)
 have H : ((impl_rowsOfAll.f k l0).bind fun bt136 => (if bt136.2 = true then (some (bt136.1 != 0)) else (some false))) = some r := h
 clear h
 replace H := Option.bind_eq_some_iff.mp H
 obtain ⟨⟨t136, t137⟩, A20, H⟩ := H
 replace H : (if t137 = true then (some (t136 != 0)) else (some false)) = some r := H
 have A2 := Aside0.mk A20
 clear A20
 by_cases c3 : t137 = true
 ·subst c3
  have H1 : (some (t136 != 0)) = some r := by rw [if_pos rfl] at H; exact H
  clear H
  have H := H1
  clear H1
  obtain rfl := Option.some.inj H
  go_enter Try.func34, Try.ntmps34
  go_wp2_with (first | ((with_reducible refine gate_callee (f := 67) rfl ?_); refine goesL_ (some 7) rfl rfl Try.func67 (by kernel_rfl) rfl #[.slice A0 l0.length c0] rfl (by (try simp only [List.map_toArray, List.map_cons, List.map_nil]); first | done | rfl | (simp only [List.length_drop, List.length_take]; rfl)) ?_; (with_reducible refine (impl_rowsOfAll.calls k _ _ l0 t136 true _ ?side1 ?side2 A2.out).mono ?_); (case side1 => repeat (first | exact HR0.out | (with_reducible refine Kd.C_alloc ?_ _) | (with_reducible refine Kd.C_drewN ?_ _) | (with_reducible refine Kd.C_drew ?_))); (case side2 => exact HC0.out); rintro e w4 ⟨rfl, hb⟩; refine ⟨_, rfl, ?_⟩; have n0_ := Aside0.mk (below_step (by repeat (first | (with_reducible first | exact HB.out | apply below_alloc | apply pw_below_drewN | apply below_drew1) | exact HB.out)) hb); clear HB; have HB := n0_; clear n0_; (try clear hb); (try clear hb2); (try clear hk); (try clear hi)))
  go_ret
  exact ⟨by first | rfl | (simp [errW_none, errW_some] <;> rfl) | (simp [*, errW_none, errW_some] <;> rfl), by repeat (first | (with_reducible first | exact HB.out | apply below_alloc | apply pw_below_drewN | apply below_drew1) | exact HB.out)⟩
 ·replace c3 := Bool.eq_false_iff.mpr c3
  subst c3
  have H1 : (some false) = some r := by rw [if_neg (show ¬ (false = true) by decide)] at H; exact H
  clear H
  have H := H1
  clear H1
  obtain rfl := Option.some.inj H
  go_enter Try.func34, Try.ntmps34
  go_wp2_with (first | ((with_reducible refine gate_callee (f := 67) rfl ?_); refine goesL_ (some 7) rfl rfl Try.func67 (by kernel_rfl) rfl #[.slice A0 l0.length c0] rfl (by (try simp only [List.map_toArray, List.map_cons, List.map_nil]); first | done | rfl | (simp only [List.length_drop, List.length_take]; rfl)) ?_; (with_reducible refine (impl_rowsOfAll.calls k _ _ l0 t136 false _ ?side1 ?side2 A2.out).mono ?_); (case side1 => repeat (first | exact HR0.out | (with_reducible refine Kd.C_alloc ?_ _) | (with_reducible refine Kd.C_drewN ?_ _) | (with_reducible refine Kd.C_drew ?_))); (case side2 => exact HC0.out); rintro e w5 ⟨rfl, hb⟩; refine ⟨_, rfl, ?_⟩; have n0_ := Aside0.mk (below_step (by repeat (first | (with_reducible first | exact HB.out | apply below_alloc | apply pw_below_drewN | apply below_drew1) | exact HB.out)) hb); clear HB; have HB := n0_; clear n0_; (try clear hb); (try clear hb2); (try clear hk); (try clear hi)))
  go_ret
  exact ⟨by first | rfl | (simp [errW_none, errW_some] <;> rfl) | (simp [*, errW_none, errW_some] <;> rfl), by repeat (first | (with_reducible first | exact HB.out | apply below_alloc | apply pw_below_drewN | apply below_drew1) | exact HB.out)⟩

end Go.Proofs.Ytlbecibchkamjaa.PFnStores
