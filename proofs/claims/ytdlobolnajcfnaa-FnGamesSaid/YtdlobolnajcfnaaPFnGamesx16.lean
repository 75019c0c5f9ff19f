-- Written by a program of this session (hooks of mine on the print): Lean checks it.
import Derived.Test.YtdlobolnajcfnaaPFnGamesx0
import Derived.Test.YtdlobolnajcfnaaPFnGamesx1
import Derived.Test.YtdlobolnajcfnaaPFnGamesx2
import Derived.Test.YtdlobolnajcfnaaPFnGamesx5
import Derived.Test.YtdlobolnajcfnaaPFnGamesx15
namespace Go.Proofs.Ytdlobolnajcfnaa.PFnGames
open Go.RowKit Go.Proofs.YtdlobolnajcfnaaW.PrintWords Go.Proofs.YtdlobolnajcfnaaW.PrintLast Go.Proofs.YtdlobolnajcfnaaW.PrintMore
attribute [local go_sem] max2_int min2_int max_two min_two max_three min_three max_four min_four   -- for this text's walks alone
set_option linter.unusedVariables false
set_option linter.unusedSimpArgs false

/-! ### impl_IsLine: function 38 -/
mutual
def impl_IsLine.j0 : Nat → List Int → Bool → Int → List (List Int) → Option (Bool)
 | 0, _, _, _, _ => none
 | k + 1, x1, x24, x485000, x485001 => if x24 = true then (some false) else (impl_IsLine.l0 k x1 1 x485000 x485001)
def impl_IsLine.l0 : Nat → List Int → Int → Int → List (List Int) → Option (Bool)
 | 0, _, _, _, _ => none
 | k + 1, x1, x5, x485000, x485001 => if x5 < (x1.length : Int) then (if 0 ≤ x5 then (if 0 ≤ (wrap64 (x5 - 1)) then (if (wrap64 (x5 - 1)) < (x1.length : Int) then ((impl_DoesAttack.f k x485000 x485001 (rd x1 x5) (rd x1 (wrap64 (x5 - 1)))).bind fun t490 => (if t490 = true then (impl_IsLine.l0 k x1 (wrap64 (x5 + 1)) x485000 x485001) else (some false))) else (none)) else (none)) else (none)) else ((impl_evens.f k x1).bind fun t491 => (impl_IsLine.l1 k t491 t491 (t491.length : Int) 0))
def impl_IsLine.l1 : Nat → List Int → List Int → Int → Int → Option (Bool)
 | 0, _, _, _, _ => none
 | k + 1, x6, x45, x46, x47 => if x47 < x46 then (if 0 ≤ x47 then (if x47 < (x45.length : Int) then (if x47 ≤ (x6.length : Int) then ((slices_Contains_int_int.f k (x6.take (x47 : Int).toNat) (rd x45 x47)).bind fun t499 => (if t499 = true then (some false) else (impl_IsLine.l1 k x6 x45 x46 (wrap64 (x47 + 1))))) else (none)) else (none)) else (none)) else (some true)
end
def impl_IsLine.f (k : Nat) (a0_0 : Int) (l0_1 : List (List Int)) (l1 : List Int) : Option (Bool) := (impl_IsGraph.f k a0_0 l0_1).bind fun t485 => (if t485 = true then (if (l1.length : Int) = 0 then (impl_IsLine.j0 k l1 true a0_0 l0_1) else (if 0 < (l1.length : Int) then ((impl_isClaim.f a0_0 l0_1 (rd l1 0)).bind fun t487 => (impl_IsLine.j0 k l1 (!t487) a0_0 l0_1)) else (none))) else (impl_IsLine.j0 k l1 true a0_0 l0_1))
theorem impl_IsLine.mono_l : ∀ k, (∀ y0 y1 y2 y3, LeO (impl_IsLine.j0 k y0 y1 y2 y3) (impl_IsLine.j0 (k + 1) y0 y1 y2 y3)) ∧ (∀ y0 y1 y2 y3, LeO (impl_IsLine.l0 k y0 y1 y2 y3) (impl_IsLine.l0 (k + 1) y0 y1 y2 y3)) ∧ (∀ y0 y1 y2 y3, LeO (impl_IsLine.l1 k y0 y1 y2 y3) (impl_IsLine.l1 (k + 1) y0 y1 y2 y3))
 | 0 => ⟨fun _ _ _ _ r h => by simp [impl_IsLine.j0] at h, fun _ _ _ _ r h => by simp [impl_IsLine.l0] at h, fun _ _ _ _ r h => by simp [impl_IsLine.l1] at h⟩
 | k + 1 => by
  obtain ⟨ih0, ih1, ih2⟩ := impl_IsLine.mono_l k
  refine ⟨?_, ?_, ?_⟩
  ·intro y0 y1 y2 y3
   unfold impl_IsLine.j0
   repeat' first
   | (with_reducible exact ih0 _ _ _ _)
   | (with_reducible exact ih1 _ _ _ _)
   | (with_reducible exact ih2 _ _ _ _)
   | (with_reducible exact impl_DoesAttack.mono _ _ _ _ _)
   | (with_reducible exact impl_IsGraph.mono _ _ _)
   | (with_reducible exact impl_evens.mono _ _)
   | (with_reducible exact slices_Contains_int_int.mono _ _ _)
   | (with_reducible exact ZJ _)
   | (with_reducible exact Zn _)
   | (with_reducible refine Zt ?_ ?_)
   | (with_reducible refine Zo ?_ (fun _ => ?_))
   | exact ih0 _ _ _ _
   | exact ih1 _ _ _ _
   | exact ih2 _ _ _ _
   | exact impl_DoesAttack.mono _ _ _ _ _
   | exact impl_IsGraph.mono _ _ _
   | exact impl_evens.mono _ _
   | exact slices_Contains_int_int.mono _ _ _
   | exact Zn _
   | refine Zt ?_ ?_
   | refine Zo ?_ (fun _ => ?_)
  ·intro y0 y1 y2 y3
   unfold impl_IsLine.l0
   repeat' first
   | (with_reducible exact ih0 _ _ _ _)
   | (with_reducible exact ih1 _ _ _ _)
   | (with_reducible exact ih2 _ _ _ _)
   | (with_reducible exact impl_DoesAttack.mono _ _ _ _ _)
   | (with_reducible exact impl_IsGraph.mono _ _ _)
   | (with_reducible exact impl_evens.mono _ _)
   | (with_reducible exact slices_Contains_int_int.mono _ _ _)
   | (with_reducible exact ZJ _)
   | (with_reducible exact Zn _)
   | (with_reducible refine Zt ?_ ?_)
   | (with_reducible refine Zo ?_ (fun _ => ?_))
   | exact ih0 _ _ _ _
   | exact ih1 _ _ _ _
   | exact ih2 _ _ _ _
   | exact impl_DoesAttack.mono _ _ _ _ _
   | exact impl_IsGraph.mono _ _ _
   | exact impl_evens.mono _ _
   | exact slices_Contains_int_int.mono _ _ _
   | exact Zn _
   | refine Zt ?_ ?_
   | refine Zo ?_ (fun _ => ?_)
  ·intro y0 y1 y2 y3
   unfold impl_IsLine.l1
   repeat' first
   | (with_reducible exact ih0 _ _ _ _)
   | (with_reducible exact ih1 _ _ _ _)
   | (with_reducible exact ih2 _ _ _ _)
   | (with_reducible exact impl_DoesAttack.mono _ _ _ _ _)
   | (with_reducible exact impl_IsGraph.mono _ _ _)
   | (with_reducible exact impl_evens.mono _ _)
   | (with_reducible exact slices_Contains_int_int.mono _ _ _)
   | (with_reducible exact ZJ _)
   | (with_reducible exact Zn _)
   | (with_reducible refine Zt ?_ ?_)
   | (with_reducible refine Zo ?_ (fun _ => ?_))
   | exact ih0 _ _ _ _
   | exact ih1 _ _ _ _
   | exact ih2 _ _ _ _
   | exact impl_DoesAttack.mono _ _ _ _ _
   | exact impl_IsGraph.mono _ _ _
   | exact impl_evens.mono _ _
   | exact slices_Contains_int_int.mono _ _ _
   | exact Zn _
   | refine Zt ?_ ?_
   | refine Zo ?_ (fun _ => ?_)
theorem impl_IsLine.mono : ∀ a0 a1 a2 k, LeO (impl_IsLine.f k a0 a1 a2) (impl_IsLine.f (k + 1) a0 a1 a2) := by
 intro a0 a1 a2 k
 obtain ⟨ih0, ih1, ih2⟩ := impl_IsLine.mono_l k
 unfold impl_IsLine.f
 repeat' first
   | (with_reducible exact ih0 _ _ _ _)
   | (with_reducible exact ih1 _ _ _ _)
   | (with_reducible exact ih2 _ _ _ _)
   | (with_reducible exact impl_DoesAttack.mono _ _ _ _ _)
   | (with_reducible exact impl_IsGraph.mono _ _ _)
   | (with_reducible exact impl_evens.mono _ _)
   | (with_reducible exact slices_Contains_int_int.mono _ _ _)
   | (with_reducible exact ZJ _)
   | (with_reducible exact Zn _)
   | (with_reducible refine Zt ?_ ?_)
   | (with_reducible refine Zo ?_ (fun _ => ?_))
   | exact ih0 _ _ _ _
   | exact ih1 _ _ _ _
   | exact ih2 _ _ _ _
   | exact impl_DoesAttack.mono _ _ _ _ _
   | exact impl_IsGraph.mono _ _ _
   | exact impl_evens.mono _ _
   | exact slices_Contains_int_int.mono _ _ _
   | exact Zn _
   | refine Zt ?_ ?_
   | refine Zo ?_ (fun _ => ?_)
def impl_IsLine.T1 : Bool × List (List Nat × List Nat) := (true, [([], []), ([0], [0]), ([1], [1]), ([2, 1], [2]), ([3], [3]), ([4, 3], [3, 4]), ([5, 3], [3, 5]), ([3, 6], [3, 6]), ([7, 3], [7]), ([8], [8]), ([8], [8]), ([10, 8], [8, 10]), ([11, 8], [8, 11]), ([9, 12, 8, 8], [8, 9, 12]), ([13, 8], [8, 13]), ([8, 14], [8, 14])])
def impl_IsLine.B1 : List Nat := [0, 1, 3, 7, 15, 31, 63, 127, 255, 511, 511, 1535, 3583, 8191, 16383, 32767]
theorem impl_IsLine.tab1 : rtab .any (opsOf Try.f38 1) = impl_IsLine.T1 := by kernel_rfl
theorem impl_IsLine.bits1 : waitsOk impl_IsLine.T1.2 impl_IsLine.B1 = true := by kernel_rfl
def impl_IsLine.T6 : Bool × List (List Nat × List Nat) := (true, [([], []), ([], []), ([], []), ([1, 2], [1, 2]), ([3], [3]), ([], []), ([], []), ([6], [6]), ([5, 7], [5, 7]), ([8], [8]), ([0, 4, 9], [0, 4, 9]), ([10], [10])])
def impl_IsLine.B6 : List Nat := [0, 0, 0, 6, 14, 0, 0, 64, 224, 480, 1023, 2047]
theorem impl_IsLine.tab6 : rtab .any (opsOf Try.f38 6) = impl_IsLine.T6 := by kernel_rfl
theorem impl_IsLine.bits6 : waitsOk impl_IsLine.T6.2 impl_IsLine.B6 = true := by kernel_rfl
set_option maxHeartbeats 8000000 in
set_option maxRecDepth 100000 in
theorem impl_IsLine.calls (k : Nat) (a0_0 : Int) (A0_1 : Option Addr) (c0_1 : Nat) (l0_1 : List (List Int)) (A1 : Option Addr) (c1 : Nat) (l1 : List Int) (r : Bool) (w : World) (hr0_1 : Kd.C (Kd.slice 3 (Kd.int .i64)) w A0_1 l0_1.length l0_1) (hc0_1 : l0_1.length ≤ c0_1) (hr1 : Kd.C (Kd.int .i64) w A1 l1.length l1) (hc1 : l1.length ≤ c1) (h : impl_IsLine.f k a0_0 l0_1 l1 = some r) :
  Calls Try.prog 38 #[.agg #[.int .i64 a0_0, .slice A0_1 l0_1.length c0_1], .slice A1 l1.length c1] w fun e w' => e = .returned (.bool r) ∧ Below w.heap.size w w' := by
 have hu27 := Try.underlying27
 have HR0_1 := Aside0.mk hr0_1
 have HC0_1 := Aside0.mk hc0_1
 clear hr0_1 hc0_1
 have HR1 := Aside0.mk hr1
 have HC1 := Aside0.mk hc1
 clear hr1 hc1
 have HB := Aside0.mk (Below.refl w.heap.size w)
 have H : ((impl_IsGraph.f k a0_0 l0_1).bind fun t485 => (if t485 = true then (if (l1.length : Int) = 0 then (impl_IsLine.j0 k l1 true a0_0 l0_1) else (if 0 < (l1.length : Int) then ((impl_isClaim.f a0_0 l0_1 (rd l1 0)).bind fun t487 => (impl_IsLine.j0 k l1 (!t487) a0_0 l0_1)) else (none))) else (impl_IsLine.j0 k l1 true a0_0 l0_1))) = some r := h
 clear h
 have HC3 := Aside0.mk H
 clear H
 go_enter Try.func38, Try.ntmps38
 go_upto_region 1 with (first | ((with_reducible refine ZD (N := 2) rfl ?_); (try (refine gate_guard (by rfl) ?_; dsimp only)); refine ZH ?hg (N := 2) ?hd (cs := #[.int .i64 a0_0, .slice A0_1 l0_1.length c0_1]) (t := 27) ?hr ?_; (case hd => rfl); (case hg => rfl); (case hr => first | (go_simp; done) | (go_simp; rfl)); intro gb484 hg w4 hbox hb; have BK484 := Aside0.mk (hbox); have GW484 := Aside0.mk ((hz_ hg : w.heap.size ≤ gb484)); have GE484 := Aside0.mk ((hz_ hg : w.heap.size ≤ gb484)); replace HB := Aside0.mk (Ze hB_ hb); clear hb hbox hg))
 (try simp only [Act.put, List.setIfInBounds_toArray, List.set_cons_zero, List.set_cons_succ])
 go_cut [24] (fun v24 wc => ∃ (kq : Nat) (x24_2 : Bool), v24 = .bool x24_2 ∧ Aside0 (impl_IsLine.j0 kq l1 x24_2 a0_0 l0_1 = some r) ∧ Aside0 (kq ≤ k) ∧ Aside0 (wc.heap[gb484]? = some (.cells #[.int .i64 a0_0, (.slice A0_1 l0_1.length c0_1)] 27 (0, 0))) ∧ Aside0 (Below w.heap.size w wc))
 case first =>
  have H := HC3.out
  clear HC3
  replace H := Option.bind_eq_some_iff.mp H
  obtain ⟨t485, A50, H⟩ := H
  replace H : (if t485 = true then (if (l1.length : Int) = 0 then (impl_IsLine.j0 k l1 true a0_0 l0_1) else (if 0 < (l1.length : Int) then ((impl_isClaim.f a0_0 l0_1 (rd l1 0)).bind fun t487 => (impl_IsLine.j0 k l1 (!t487) a0_0 l0_1)) else (none))) else (impl_IsLine.j0 k l1 true a0_0 l0_1)) = some r := H
  have A5 := Aside0.mk A50
  clear A50
  by_cases c6 : t485 = true
  ·subst c6
   have H1 : (if (l1.length : Int) = 0 then (impl_IsLine.j0 k l1 true a0_0 l0_1) else (if 0 < (l1.length : Int) then ((impl_isClaim.f a0_0 l0_1 (rd l1 0)).bind fun t487 => (impl_IsLine.j0 k l1 (!t487) a0_0 l0_1)) else (none))) = some r := by rw [if_pos rfl] at H; exact H
   clear H
   have H := H1
   clear H1
   by_cases c7 : (l1.length : Int) = 0
   ·rw [if_pos c7] at H
    have c7b0 : ((l1.length : Int) == 0) = true := beq_iff_eq.mpr c7
    have c7b1 : ((l1.length : Int) != 0) = false := bne_eq_false_iff_eq.mpr c7
    clear c7
    (first | rw [c7b0] | (simp only [i64_w, i32_w]; rw [c7b0]) | skip)
    have H' := Aside0.mk H
    clear H
    try go_wp2
    replace BK484 := Aside0.mk (Zd BK484.out)
    replace HB := Aside0.mk (Zi HB.out)
    refine start_ (n := 16) (S := fun w' => w'.cell? ⟨gb484, 0, none⟩ = some (.int .i64 a0_0) ∧ w'.cell? ⟨gb484, 1, none⟩ = some (.slice A0_1 l0_1.length c0_1)) (ds := []) #[O,O,O,O,O,O,O,O,O,O,O,O,O,O,O,O] (by kernel_rfl) rfl rfl ⟨(Za BK484.out 0).trans rfl, (Za BK484.out 1).trans rfl⟩ (fun hHeld => ?_); refine with_tabW impl_IsLine.tab1 impl_IsLine.bits1 (fun HT_ HW_ => ?_)
    generalize w4.drew = w8 at BK484 HB hHeld ⊢
    refine tk2_ 0 9 #[Y,O,O,O,O,O,O,O,O,O,O,O,O,O,O,O] hHeld ?_
    refine on_ 1 10 #[Y,Y,O,O,O,O,O,O,O,O,O,O,O,O,O,O] (fun K hK => ?_)
    refine goes_ Try.func24 (by kernel_rfl) rfl #[.agg #[.int .i64 a0_0, .slice A0_1 l0_1.length c0_1]] (by rfl) rfl rfl ar_ ?_
    with_reducible refine (impl_IsGraph.calls k a0_0 _ _ l0_1 true _ ?side1 ?side2 A5.out).mono ?_
    (case side1 => exact cb_ HR0_1.out)
    (case side2 => exact HC0_1.out)
    rintro e w9 ⟨rfl, hb⟩
    refine ⟨_, rfl, ?_⟩
    replace BK484 := Aside0.mk (Zc (g := gb484) (o := .cells #[.int .i64 a0_0, .slice A0_1 l0_1.length c0_1] 27 (0, 0)) (bk_ BK484.out) hb)
    replace HB := Aside0.mk (Ze hB_ hb)
    (try clear hb)
    (try clear hb2)
    (try clear hk)
    (try clear hi)
    refine hK.out _ _ ⟨(Za BK484.out 0).trans rfl, (Za BK484.out 1).trans rfl⟩ (fun hHeld => ?_)
    clear hK K
    refine no_ 10 ?_
    refine pu_ 2 11 #[Y,Y,Y,O,O,O,O,O,O,O,O,O,O,O,O,O] ?_
    refine pu_ 3 12 #[Y,Y,Y,Y,O,O,O,O,O,O,O,O,O,O,O,O] ?_
    refine pu_ 4 13 #[Y,Y,Y,Y,Y,O,O,O,O,O,O,O,O,O,O,O] ?_
    refine pu_ 5 14 #[Y,Y,Y,Y,Y,Y,O,O,O,O,O,O,O,O,O,O] ?_
    refine pu_ 6 15 #[Y,Y,Y,Y,Y,Y,Y,O,O,O,O,O,O,O,O,O] ?_
    refine pu_ 7 16 #[Y,Y,Y,Y,Y,Y,Y,Y,O,O,O,O,O,O,O,O] ?_
    refine pu_ 8 17 #[Y,Y,Y,Y,Y,Y,Y,Y,Y,O,O,O,O,O,O,O] ?_
    refine pn_ 9 18 #[Y,Y,Y,Y,Y,Y,Y,Y,Y,Y,O,O,O,O,O,O] ?_
    refine pn_ 10 19 #[Y,Y,Y,Y,Y,Y,Y,Y,Y,Y,Y,O,O,O,O,O] ?_
    refine pn_ 11 20 #[Y,Y,Y,Y,Y,Y,Y,Y,Y,Y,Y,Y,O,O,O,O] ?_
    refine pn_ 12 21 #[Y,Y,Y,Y,Y,Y,Y,Y,Y,Y,Y,Y,Y,O,O,O] ?_
    refine pn_ 13 22 #[Y,Y,Y,Y,Y,Y,Y,Y,Y,Y,Y,Y,Y,Y,O,O] ?_
    refine pn_ 14 23 #[Y,Y,Y,Y,Y,Y,Y,Y,Y,Y,Y,Y,Y,Y,Y,O] ?_
    refine pu_ 15 24 #[Y,Y,Y,Y,Y,Y,Y,Y,Y,Y,Y,Y,Y,Y,Y,Y] ?_
    refine done_ (done_of HT_.out (by kernel_rfl)) ?_
    try go_wp2
    go_meet
    case rel => exact ⟨_, (true), sm_, H', ⟨by first | omega | exact Nat.le_refl _⟩, ⟨bk_ BK484.out⟩, ⟨hB_⟩⟩
   ·rw [if_neg c7] at H
    have c7b0 : ((l1.length : Int) == 0) = false := beq_eq_false_iff_ne.mpr c7
    have c7b1 : ((l1.length : Int) != 0) = true := bne_iff_ne.mpr c7
    have c7b2 : ¬ (l1 = []) := fun h_ => c7 (by rw [h_]; rfl)
    (first | rw [c7b0] | (simp only [i64_w, i32_w]; rw [c7b0]) | skip)
    by_cases c10 : 0 < (l1.length : Int)
    ·rw [if_pos c10] at H
     have c10b0 : decide (0 < (l1.length : Int)) = true := decide_eq_true c10
     have c10b1 : decide (0 < l1.length) = true := decide_eq_true (by omega)
     clear c10
     replace H := Option.bind_eq_some_iff.mp H
     obtain ⟨t487, A110, H⟩ := H
     replace H : (impl_IsLine.j0 k l1 (!t487) a0_0 l0_1) = some r := H
     have A11 := Aside0.mk A110
     clear A110
     have H' := Aside0.mk H
     clear H
     try go_wp2
     replace BK484 := Aside0.mk (Zd BK484.out)
     replace HB := Aside0.mk (Zi HB.out)
     have p486 : 0 ≤ (0 : Int) := (by omega)
     have q486 : 0 < (l1.length : Int) := of_decide_eq_true as_
     obtain ⟨ad486, e486, hx486_0⟩ := Zv HR1.out 0 p486 q486
     have hw486_0 := hx486_0
     (try rw [show ((0 : Int)).toNat = 0 from rfl] at hw486_0)
     (try rw [show 0 * 1 = 0 from rfl] at hw486_0)
     (try rw [Addr.add_zero'] at hw486_0)
     cases e486
     have qi486 : (0 < l1.length) = True := eq_true (by omega)
     (try rw [show ((0 : Int)).toNat = 0 from rfl] at hx486_0)
     (try rw [Addr.add_zero'] at hx486_0)
     replace hx486_0 := (HB.out.cell (World.block_lt_of_cell? w _ hx486_0)).trans hx486_0
     replace p486 := eq_true p486
     replace q486 := eq_true q486
     refine start_ (n := 16) (S := fun w' => w'.cell? ⟨gb484, 0, none⟩ = some (.int .i64 a0_0) ∧ w'.cell? ⟨gb484, 1, none⟩ = some (.slice A0_1 l0_1.length c0_1) ∧ w'.cell? ad486 = some (.int .i64 (rd l1 0))) (ds := []) #[O,O,O,O,O,O,O,O,O,O,O,O,O,O,O,O] (by kernel_rfl) rfl rfl ⟨(Za BK484.out 0).trans rfl, (Za BK484.out 1).trans rfl, ((HB.out.cell (World.block_lt_of_cell? w _ hw486_0)).trans hw486_0)⟩ (fun hHeld => ?_); refine with_tabW impl_IsLine.tab1 impl_IsLine.bits1 (fun HT_ HW_ => ?_)
     generalize w4.drew = w12 at BK484 HB hx486_0 hHeld ⊢
     refine tk3_ 0 9 #[Y,O,O,O,O,O,O,O,O,O,O,O,O,O,O,O] hHeld ?_
     refine on_ 1 10 #[Y,Y,O,O,O,O,O,O,O,O,O,O,O,O,O,O] (fun K hK => ?_)
     refine goes_ Try.func24 (by kernel_rfl) rfl #[.agg #[.int .i64 a0_0, .slice A0_1 l0_1.length c0_1]] (by rfl) rfl rfl ar_ ?_
     with_reducible refine (impl_IsGraph.calls k a0_0 _ _ l0_1 true _ ?side1 ?side2 A5.out).mono ?_
     (case side1 => exact cb_ HR0_1.out)
     (case side2 => exact HC0_1.out)
     rintro e w13 ⟨rfl, hb⟩
     refine ⟨_, rfl, ?_⟩
     replace BK484 := Aside0.mk (Zc (g := gb484) (o := .cells #[.int .i64 a0_0, .slice A0_1 l0_1.length c0_1] 27 (0, 0)) (bk_ BK484.out) hb)
     replace HB := Aside0.mk (Ze hB_ hb)
     (try clear hb)
     (try clear hb2)
     (try clear hk)
     (try clear hi)
     refine hK.out _ _ ⟨(Za BK484.out 0).trans rfl, (Za BK484.out 1).trans rfl, ((HB.out.cell (World.block_lt_of_cell? w _ hw486_0)).trans hw486_0)⟩ (fun hHeld => ?_)
     clear hK K
     refine no_ 10 ?_
     refine pu_ 2 11 #[Y,Y,Y,O,O,O,O,O,O,O,O,O,O,O,O,O] ?_
     refine pu_ 3 12 #[Y,Y,Y,Y,O,O,O,O,O,O,O,O,O,O,O,O] ?_
     refine pu_ 4 13 #[Y,Y,Y,Y,Y,O,O,O,O,O,O,O,O,O,O,O] ?_
     refine pu_ 5 14 #[Y,Y,Y,Y,Y,Y,O,O,O,O,O,O,O,O,O,O] ?_
     refine pu_ 6 15 #[Y,Y,Y,Y,Y,Y,Y,O,O,O,O,O,O,O,O,O] ?_
     refine pu_ 7 16 #[Y,Y,Y,Y,Y,Y,Y,Y,O,O,O,O,O,O,O,O] ?_
     refine pu_ 8 17 #[Y,Y,Y,Y,Y,Y,Y,Y,Y,O,O,O,O,O,O,O] ?_
     refine pu_ 10 19 #[Y,Y,Y,Y,Y,Y,Y,Y,Y,O,Y,O,O,O,O,O] ?_
     refine pu_ 11 20 #[Y,Y,Y,Y,Y,Y,Y,Y,Y,O,Y,Y,O,O,O,O] ?_
     refine tk3_ 9 18 #[Y,Y,Y,Y,Y,Y,Y,Y,Y,Y,Y,Y,O,O,O,O] hHeld ?_
     refine tk3_ 12 21 #[Y,Y,Y,Y,Y,Y,Y,Y,Y,Y,Y,Y,Y,O,O,O] hHeld ?_
     refine on_ 13 22 #[Y,Y,Y,Y,Y,Y,Y,Y,Y,Y,Y,Y,Y,Y,O,O] (fun K hK => ?_)
     refine goes_ Try.func61 (by kernel_rfl) rfl #[.agg #[.int .i64 a0_0, .slice A0_1 l0_1.length c0_1], .int .i64 (rd l1 0)] (by rfl) rfl rfl ar_ ?_
     with_reducible refine (impl_isClaim.calls a0_0 _ _ l0_1 (rd l1 0) t487 _ ?side1 ?side2 A11.out).mono ?_
     (case side1 => exact cb_ HR0_1.out)
     (case side2 => exact HC0_1.out)
     rintro e w14 ⟨rfl, hb⟩
     refine ⟨_, rfl, ?_⟩
     replace BK484 := Aside0.mk (Zc (g := gb484) (o := .cells #[.int .i64 a0_0, .slice A0_1 l0_1.length c0_1] 27 (0, 0)) (bk_ BK484.out) hb)
     replace HB := Aside0.mk (Ze hB_ hb)
     (try clear hb)
     (try clear hb2)
     (try clear hk)
     (try clear hi)
     refine hK.out _ _ ⟨(Za BK484.out 0).trans rfl, (Za BK484.out 1).trans rfl, ((HB.out.cell (World.block_lt_of_cell? w _ hw486_0)).trans hw486_0)⟩ (fun hHeld => ?_)
     clear hK K
     refine no_ 22 ?_
     refine pu_ 14 23 #[Y,Y,Y,Y,Y,Y,Y,Y,Y,Y,Y,Y,Y,Y,Y,O] ?_
     refine pu_ 15 24 #[Y,Y,Y,Y,Y,Y,Y,Y,Y,Y,Y,Y,Y,Y,Y,Y] ?_
     refine done_ (done_of HT_.out (by kernel_rfl)) ?_
     try go_wp2
     go_meet
     case rel => exact ⟨_, (!t487), sm_, H', ⟨by first | omega | exact Nat.le_refl _⟩, ⟨bk_ BK484.out⟩, ⟨hB_⟩⟩
    ·rw [if_neg c10] at H
     exact absurd H (by simp)
  ·replace c6 := Bool.eq_false_iff.mpr c6
   subst c6
   have H1 : (impl_IsLine.j0 k l1 true a0_0 l0_1) = some r := by rw [if_neg (show ¬ (false = true) by decide)] at H; exact H
   clear H
   have H := H1
   clear H1
   have H' := Aside0.mk H
   clear H
   try go_wp2
   replace BK484 := Aside0.mk (Zd BK484.out)
   replace HB := Aside0.mk (Zi HB.out)
   refine start_ (n := 16) (S := fun w' => w'.cell? ⟨gb484, 0, none⟩ = some (.int .i64 a0_0) ∧ w'.cell? ⟨gb484, 1, none⟩ = some (.slice A0_1 l0_1.length c0_1)) (ds := []) #[O,O,O,O,O,O,O,O,O,O,O,O,O,O,O,O] (by kernel_rfl) rfl rfl ⟨(Za BK484.out 0).trans rfl, (Za BK484.out 1).trans rfl⟩ (fun hHeld => ?_); refine with_tabW impl_IsLine.tab1 impl_IsLine.bits1 (fun HT_ HW_ => ?_)
   generalize w4.drew = w15 at BK484 HB hHeld ⊢
   refine tk2_ 0 9 #[Y,O,O,O,O,O,O,O,O,O,O,O,O,O,O,O] hHeld ?_
   refine on_ 1 10 #[Y,Y,O,O,O,O,O,O,O,O,O,O,O,O,O,O] (fun K hK => ?_)
   refine goes_ Try.func24 (by kernel_rfl) rfl #[.agg #[.int .i64 a0_0, .slice A0_1 l0_1.length c0_1]] (by rfl) rfl rfl ar_ ?_
   with_reducible refine (impl_IsGraph.calls k a0_0 _ _ l0_1 false _ ?side1 ?side2 A5.out).mono ?_
   (case side1 => exact cb_ HR0_1.out)
   (case side2 => exact HC0_1.out)
   rintro e w16 ⟨rfl, hb⟩
   refine ⟨_, rfl, ?_⟩
   replace BK484 := Aside0.mk (Zc (g := gb484) (o := .cells #[.int .i64 a0_0, .slice A0_1 l0_1.length c0_1] 27 (0, 0)) (bk_ BK484.out) hb)
   replace HB := Aside0.mk (Ze hB_ hb)
   (try clear hb)
   (try clear hb2)
   (try clear hk)
   (try clear hi)
   refine hK.out _ _ ⟨(Za BK484.out 0).trans rfl, (Za BK484.out 1).trans rfl⟩ (fun hHeld => ?_)
   clear hK K
   refine no_ 10 ?_
   refine pu_ 2 11 #[Y,Y,Y,O,O,O,O,O,O,O,O,O,O,O,O,O] ?_
   refine pu_ 3 12 #[Y,Y,Y,Y,O,O,O,O,O,O,O,O,O,O,O,O] ?_
   refine pn_ 4 13 #[Y,Y,Y,Y,Y,O,O,O,O,O,O,O,O,O,O,O] ?_
   refine pn_ 5 14 #[Y,Y,Y,Y,Y,Y,O,O,O,O,O,O,O,O,O,O] ?_
   refine pn_ 6 15 #[Y,Y,Y,Y,Y,Y,Y,O,O,O,O,O,O,O,O,O] ?_
   refine pu_ 7 16 #[Y,Y,Y,Y,Y,Y,Y,Y,O,O,O,O,O,O,O,O] ?_
   refine pu_ 8 17 #[Y,Y,Y,Y,Y,Y,Y,Y,Y,O,O,O,O,O,O,O] ?_
   refine pn_ 9 18 #[Y,Y,Y,Y,Y,Y,Y,Y,Y,Y,O,O,O,O,O,O] ?_
   refine pn_ 10 19 #[Y,Y,Y,Y,Y,Y,Y,Y,Y,Y,Y,O,O,O,O,O] ?_
   refine pn_ 11 20 #[Y,Y,Y,Y,Y,Y,Y,Y,Y,Y,Y,Y,O,O,O,O] ?_
   refine pn_ 12 21 #[Y,Y,Y,Y,Y,Y,Y,Y,Y,Y,Y,Y,Y,O,O,O] ?_
   refine pn_ 13 22 #[Y,Y,Y,Y,Y,Y,Y,Y,Y,Y,Y,Y,Y,Y,O,O] ?_
   refine pn_ 14 23 #[Y,Y,Y,Y,Y,Y,Y,Y,Y,Y,Y,Y,Y,Y,Y,O] ?_
   refine pu_ 15 24 #[Y,Y,Y,Y,Y,Y,Y,Y,Y,Y,Y,Y,Y,Y,Y,Y] ?_
   refine done_ (done_of HT_.out (by kernel_rfl)) ?_
   try go_wp2
   go_meet
   case rel => exact ⟨_, (true), sm_, H', ⟨by first | omega | exact Nat.le_refl _⟩, ⟨bk_ BK484.out⟩, ⟨hB_⟩⟩
 case rest =>
  clear HC3
  try clear c1
  try clear c2
  try clear p2
  try clear c3
  try clear p4
  try clear q4
  try clear hx4
  try clear qi4
  try clear c6
  try clear c7
  try clear c7b0
  try clear c7b1
  try clear c7b2
  try clear c10
  try clear c10b0
  try clear c10b1
  try clear hx486_0
  try clear p486
  try clear q486
  obtain ⟨kq, x24_2, rfl, HA, HJ2, BK484, HB⟩ := hcut
  cases kq with
  | zero => exact absurd HA.out (by simp [impl_IsLine.j0])
  | succ kj2 =>
   have H := HA.out
   clear HA
   simp only [impl_IsLine.j0] at H
   by_cases c17 : x24_2 = true
   ·subst c17
    have H1 : (some false) = some r := by rw [if_pos rfl] at H; exact H
    clear H
    have H := H1
    clear H1
    obtain rfl := Option.some.inj H
    go_wp2
    go_ret
    exact ⟨er_, hB_⟩
   ·replace c17 := Bool.eq_false_iff.mpr c17
    subst c17
    have H1 : (impl_IsLine.l0 kj2 l1 1 a0_0 l0_1) = some r := by rw [if_neg (show ¬ (false = true) by decide)] at H; exact H
    clear H
    have H := H1
    clear H1
    have H' := Aside0.mk H
    clear H
    go_wp2
    go_loopg [5] kj2 (fun kq v5 w' => ∃ (x5_2 : Int), v5 = .int .i64 x5_2 ∧ Aside0 (impl_IsLine.l0 kq l1 x5_2 a0_0 l0_1 = some r) ∧ Aside0 (kq ≤ kj2) ∧ Aside0 (w'.heap[gb484]? = some (.cells #[.int .i64 a0_0, (.slice A0_1 l0_1.length c0_1)] 27 (0, 0))) ∧ Aside0 (Below w.heap.size w w'))
    case atStart => exact ⟨(1), sm_, H', ⟨Nat.le_refl _⟩, ⟨bk_ BK484.out⟩, ⟨hB_⟩⟩
    case round =>
     clear H'
     try clear c1
     try clear c2
     try clear p2
     try clear c3
     try clear p4
     try clear q4
     try clear hx4
     try clear qi4
     try clear c6
     try clear c7
     try clear c7b0
     try clear c7b1
     try clear c7b2
     try clear c10
     try clear c10b0
     try clear c10b1
     try clear c17
     try clear hx486_0
     try clear p2
     try clear p4
     try clear p486
     try clear q4
     try clear q486
     obtain ⟨x5_2, rfl, HA, HK2, BK484, HB⟩ := hrel
     cases gk with
     | zero => exact absurd HA.out (by simp [impl_IsLine.l0])
     | succ k2 =>
      have H := HA.out
      clear HA
      simp only [impl_IsLine.l0] at H
      by_cases c18 : x5_2 < (l1.length : Int)
      ·rw [if_pos c18] at H
       have c18b0 : decide (x5_2 < (l1.length : Int)) = true := decide_eq_true c18
       clear c18
       by_cases c19 : 0 ≤ x5_2
       ·rw [if_pos c19] at H
        have c19b0 : decide (0 ≤ x5_2) = true := decide_eq_true c19
        clear c19
        obtain ⟨ji20, hji20⟩ : ∃ j_ : Int, (wrap64 (x5_2 - 1)) = j_ := ⟨_, rfl⟩
        replace H : (if 0 ≤ (ji20) then (if (ji20) < (l1.length : Int) then ((impl_DoesAttack.f k2 a0_0 l0_1 (rd l1 x5_2) (rd l1 (ji20))).bind fun t490 => (if t490 = true then (impl_IsLine.l0 k2 l1 (wrap64 (x5_2 + 1)) a0_0 l0_1) else (some false))) else (none)) else (none)) = some r := by first | (rw [hji20] at H; exact H) | (simp only [hji20] at H ⊢; exact H)
        have hji20w : (IntKind.i64.wrap (x5_2 - 1)) = ji20 := (i64_w _).trans hji20
        by_cases c21 : 0 ≤ (ji20)
        ·rw [if_pos c21] at H
         have c21b0 : decide (0 ≤ (ji20)) = true := decide_eq_true c21
         clear c21
         by_cases c22 : (ji20) < (l1.length : Int)
         ·rw [if_pos c22] at H
          have c22b0 : decide ((ji20) < (l1.length : Int)) = true := decide_eq_true c22
          clear c22
          replace H := Option.bind_eq_some_iff.mp H
          obtain ⟨t490, A230, H⟩ := H
          replace H : (if t490 = true then (impl_IsLine.l0 k2 l1 (wrap64 (x5_2 + 1)) a0_0 l0_1) else (some false)) = some r := H
          have A23 := Aside0.mk A230
          clear A230
          by_cases c24 : t490 = true
          ·subst c24
           have H1 : (impl_IsLine.l0 k2 l1 (wrap64 (x5_2 + 1)) a0_0 l0_1) = some r := by rw [if_pos rfl] at H; exact H
           clear H
           have H := H1
           clear H1
           have H' := Aside0.mk H
           clear H
           try go_wp2
           replace BK484 := Aside0.mk (Zd BK484.out)
           replace HB := Aside0.mk (Zi HB.out)
           have p488 : 0 ≤ (x5_2 : Int) := of_decide_eq_true as_
           have q488 : x5_2 < (l1.length : Int) := of_decide_eq_true as_
           obtain ⟨ad488, e488, hx488_0⟩ := Zv HR1.out x5_2 p488 q488
           have hw488_0 := hx488_0
           cases e488
           replace hx488_0 := (HB.out.cell (World.block_lt_of_cell? w _ hx488_0)).trans hx488_0
           replace p488 := eq_true p488
           replace q488 := eq_true q488
           have p489 : 0 ≤ ((ji20) : Int) := of_decide_eq_true as_
           have q489 : (ji20) < (l1.length : Int) := of_decide_eq_true as_
           obtain ⟨ad489, e489, hx489_0⟩ := Zv HR1.out (ji20) p489 q489
           have hw489_0 := hx489_0
           obtain rfl : ad488 = ad489 := (by injection e489)
           replace hx489_0 := (HB.out.cell (World.block_lt_of_cell? w _ hx489_0)).trans hx489_0
           replace p489 := eq_true p489
           replace q489 := eq_true q489
           refine start_ (n := 12) (S := fun w' => w'.cell? ⟨gb484, 0, none⟩ = some (.int .i64 a0_0) ∧ w'.cell? ⟨gb484, 1, none⟩ = some (.slice A0_1 l0_1.length c0_1) ∧ w'.cell? (ad488.add (x5_2).toNat) = some (.int .i64 (rd l1 x5_2)) ∧ w'.cell? (ad488.add ((ji20)).toNat) = some (.int .i64 (rd l1 (ji20)))) (ds := []) #[O,O,O,O,O,O,O,O,O,O,O,O] (by kernel_rfl) rfl rfl ⟨(Za BK484.out 0).trans rfl, (Za BK484.out 1).trans rfl, ((HB.out.cell (World.block_lt_of_cell? w _ hw488_0)).trans hw488_0), ((HB.out.cell (World.block_lt_of_cell? w _ hw489_0)).trans hw489_0)⟩ (fun hHeld => ?_); refine with_tabW impl_IsLine.tab6 impl_IsLine.bits6 (fun HT_ HW_ => ?_)
           generalize wr.drew = w25 at BK484 HB hx488_0 hx489_0 hHeld ⊢
           refine pu_ 1 32 #[O,Y,O,O,O,O,O,O,O,O,O,O] ?_
           refine pu_ 2 33 #[O,Y,Y,O,O,O,O,O,O,O,O,O] ?_
           refine pu_ 3 34 #[O,Y,Y,Y,O,O,O,O,O,O,O,O] ?_
           refine pu_ 5 36 #[O,Y,Y,Y,O,Y,O,O,O,O,O,O] ?_
           refine pu_ 6 37 #[O,Y,Y,Y,O,Y,Y,O,O,O,O,O] ?_
           refine pu_ 7 38 #[O,Y,Y,Y,O,Y,Y,Y,O,O,O,O] ?_
           refine pu_ 8 39 #[O,Y,Y,Y,O,Y,Y,Y,Y,O,O,O] ?_
           refine tk4_ 0 31 #[Y,Y,Y,Y,O,Y,Y,Y,Y,O,O,O] hHeld ?_
           refine tk4_ 4 35 #[Y,Y,Y,Y,Y,Y,Y,Y,Y,O,O,O] hHeld ?_
           refine tk4_ 9 40 #[Y,Y,Y,Y,Y,Y,Y,Y,Y,Y,O,O] hHeld ?_
           refine on_ 10 41 #[Y,Y,Y,Y,Y,Y,Y,Y,Y,Y,Y,O] (fun K hK => ?_)
           refine goes_ Try.func88 (by kernel_rfl) rfl #[.agg #[.int .i64 a0_0, .slice A0_1 l0_1.length c0_1], .int .i64 (rd l1 x5_2), .int .i64 (rd l1 (ji20))] (by rfl) rfl rfl (by (try simp only [List.map_toArray, List.map_cons, List.map_nil]); first | done | (simp only [hji20]; rfl) | rfl | (simp only [List.length_drop, List.length_take]; rfl)) ?_
           with_reducible refine (impl_DoesAttack.calls k2 a0_0 _ _ l0_1 (rd l1 x5_2) (rd l1 (ji20)) true _ ?side1 ?side2 A23.out).mono ?_
           (case side1 => exact cb_ HR0_1.out)
           (case side2 => exact HC0_1.out)
           rintro e w26 ⟨rfl, hb⟩
           refine ⟨_, rfl, ?_⟩
           replace BK484 := Aside0.mk (Zc (g := gb484) (o := .cells #[.int .i64 a0_0, .slice A0_1 l0_1.length c0_1] 27 (0, 0)) (bk_ BK484.out) hb)
           replace HB := Aside0.mk (Ze hB_ hb)
           (try clear hb)
           (try clear hb2)
           (try clear hk)
           (try clear hi)
           refine hK.out _ _ ⟨(Za BK484.out 0).trans rfl, (Za BK484.out 1).trans rfl, ((HB.out.cell (World.block_lt_of_cell? w _ hw488_0)).trans hw488_0), ((HB.out.cell (World.block_lt_of_cell? w _ hw489_0)).trans hw489_0)⟩ (fun hHeld => ?_)
           clear hK K
           refine no_ 41 ?_
           refine pu_ 11 42 #[Y,Y,Y,Y,Y,Y,Y,Y,Y,Y,Y,Y] ?_
           refine done_ (done_of HT_.out (by kernel_rfl)) ?_
           try go_wp2
           go_roundg k2
           case measure => have := HJ2.out; have := HK2.out; omega
           case rel => exact ⟨(wrap64 (x5_2 + 1)), sm_, H', ⟨by have := HJ2.out; have := HK2.out; omega⟩, ⟨bk_ BK484.out⟩, ⟨hB_⟩⟩
          ·replace c24 := Bool.eq_false_iff.mpr c24
           subst c24
           have H1 : (some false) = some r := by rw [if_neg (show ¬ (false = true) by decide)] at H; exact H
           clear H
           have H := H1
           clear H1
           obtain rfl := Option.some.inj H
           try go_wp2
           replace BK484 := Aside0.mk (Zd BK484.out)
           replace HB := Aside0.mk (Zi HB.out)
           have p488 : 0 ≤ (x5_2 : Int) := of_decide_eq_true as_
           have q488 : x5_2 < (l1.length : Int) := of_decide_eq_true as_
           obtain ⟨ad488, e488, hx488_0⟩ := Zv HR1.out x5_2 p488 q488
           have hw488_0 := hx488_0
           cases e488
           replace hx488_0 := (HB.out.cell (World.block_lt_of_cell? w _ hx488_0)).trans hx488_0
           replace p488 := eq_true p488
           replace q488 := eq_true q488
           have p489 : 0 ≤ ((ji20) : Int) := of_decide_eq_true as_
           have q489 : (ji20) < (l1.length : Int) := of_decide_eq_true as_
           obtain ⟨ad489, e489, hx489_0⟩ := Zv HR1.out (ji20) p489 q489
           have hw489_0 := hx489_0
           obtain rfl : ad488 = ad489 := (by injection e489)
           replace hx489_0 := (HB.out.cell (World.block_lt_of_cell? w _ hx489_0)).trans hx489_0
           replace p489 := eq_true p489
           replace q489 := eq_true q489
           refine start_ (n := 12) (S := fun w' => w'.cell? ⟨gb484, 0, none⟩ = some (.int .i64 a0_0) ∧ w'.cell? ⟨gb484, 1, none⟩ = some (.slice A0_1 l0_1.length c0_1) ∧ w'.cell? (ad488.add (x5_2).toNat) = some (.int .i64 (rd l1 x5_2)) ∧ w'.cell? (ad488.add ((ji20)).toNat) = some (.int .i64 (rd l1 (ji20)))) (ds := []) #[O,O,O,O,O,O,O,O,O,O,O,O] (by kernel_rfl) rfl rfl ⟨(Za BK484.out 0).trans rfl, (Za BK484.out 1).trans rfl, ((HB.out.cell (World.block_lt_of_cell? w _ hw488_0)).trans hw488_0), ((HB.out.cell (World.block_lt_of_cell? w _ hw489_0)).trans hw489_0)⟩ (fun hHeld => ?_); refine with_tabW impl_IsLine.tab6 impl_IsLine.bits6 (fun HT_ HW_ => ?_)
           generalize wr.drew = w27 at BK484 HB hx488_0 hx489_0 hHeld ⊢
           refine pu_ 1 32 #[O,Y,O,O,O,O,O,O,O,O,O,O] ?_
           refine pu_ 2 33 #[O,Y,Y,O,O,O,O,O,O,O,O,O] ?_
           refine pu_ 3 34 #[O,Y,Y,Y,O,O,O,O,O,O,O,O] ?_
           refine pu_ 5 36 #[O,Y,Y,Y,O,Y,O,O,O,O,O,O] ?_
           refine pu_ 6 37 #[O,Y,Y,Y,O,Y,Y,O,O,O,O,O] ?_
           refine pu_ 7 38 #[O,Y,Y,Y,O,Y,Y,Y,O,O,O,O] ?_
           refine pu_ 8 39 #[O,Y,Y,Y,O,Y,Y,Y,Y,O,O,O] ?_
           refine tk4_ 0 31 #[Y,Y,Y,Y,O,Y,Y,Y,Y,O,O,O] hHeld ?_
           refine tk4_ 4 35 #[Y,Y,Y,Y,Y,Y,Y,Y,Y,O,O,O] hHeld ?_
           refine tk4_ 9 40 #[Y,Y,Y,Y,Y,Y,Y,Y,Y,Y,O,O] hHeld ?_
           refine on_ 10 41 #[Y,Y,Y,Y,Y,Y,Y,Y,Y,Y,Y,O] (fun K hK => ?_)
           refine goes_ Try.func88 (by kernel_rfl) rfl #[.agg #[.int .i64 a0_0, .slice A0_1 l0_1.length c0_1], .int .i64 (rd l1 x5_2), .int .i64 (rd l1 (ji20))] (by rfl) rfl rfl (by (try simp only [List.map_toArray, List.map_cons, List.map_nil]); first | done | (simp only [hji20]; rfl) | rfl | (simp only [List.length_drop, List.length_take]; rfl)) ?_
           with_reducible refine (impl_DoesAttack.calls k2 a0_0 _ _ l0_1 (rd l1 x5_2) (rd l1 (ji20)) false _ ?side1 ?side2 A23.out).mono ?_
           (case side1 => exact cb_ HR0_1.out)
           (case side2 => exact HC0_1.out)
           rintro e w28 ⟨rfl, hb⟩
           refine ⟨_, rfl, ?_⟩
           replace BK484 := Aside0.mk (Zc (g := gb484) (o := .cells #[.int .i64 a0_0, .slice A0_1 l0_1.length c0_1] 27 (0, 0)) (bk_ BK484.out) hb)
           replace HB := Aside0.mk (Ze hB_ hb)
           (try clear hb)
           (try clear hb2)
           (try clear hk)
           (try clear hi)
           refine hK.out _ _ ⟨(Za BK484.out 0).trans rfl, (Za BK484.out 1).trans rfl, ((HB.out.cell (World.block_lt_of_cell? w _ hw488_0)).trans hw488_0), ((HB.out.cell (World.block_lt_of_cell? w _ hw489_0)).trans hw489_0)⟩ (fun hHeld => ?_)
           clear hK K
           refine no_ 41 ?_
           refine pu_ 11 42 #[Y,Y,Y,Y,Y,Y,Y,Y,Y,Y,Y,Y] ?_
           refine done_ (done_of HT_.out (by kernel_rfl)) ?_
           try go_wp2
           go_ret
           exact ⟨by first | rfl | (simp [errW_none, errW_some] <;> rfl) | (simp only [← hji20]; first | rfl | (simp [errW_none, errW_some] <;> rfl)) | (simp [*, errW_none, errW_some] <;> rfl), hB_⟩
         ·rw [if_neg c22] at H
          exact absurd H (by simp)
        ·rw [if_neg c21] at H
         exact absurd H (by simp)
       ·rw [if_neg c19] at H
        exact absurd H (by simp)
      ·rw [if_neg c18] at H
       have c18b0 : decide (x5_2 < (l1.length : Int)) = false := decide_eq_false c18
       clear c18
       replace H := Option.bind_eq_some_iff.mp H
       obtain ⟨t491, A290, H⟩ := H
       replace H : (impl_IsLine.l1 k2 t491 t491 (t491.length : Int) 0) = some r := H
       have A29 := Aside0.mk A290
       clear A290
       have H' := Aside0.mk H
       clear H
       go_wp2_with (first | ((with_reducible refine Zj (f := 87) rfl ?_); refine ZE (some 44) rfl rfl Try.func87 (by kernel_rfl) rfl #[.slice A1 l1.length c1] rfl ar_ ?_; (with_reducible refine (impl_evens.calls k2 _ _ l1 t491 _ ?side1 ?side2 A29.out).mono ?_); (case side1 => exact cb_ HR1.out); (case side2 => exact HC1.out); rintro e w30 ⟨v492, rfl, ho0, hb⟩; refine ⟨_, rfl, ?_⟩; have HO493 := Aside0.mk (ZI ho0 (Zl hB_)); replace BK484 := Aside0.mk (Zc (g := gb484) (o := .cells #[.int .i64 a0_0, .slice A0_1 l0_1.length c0_1] 27 (0, 0)) (bk_ BK484.out) hb); replace HB := Aside0.mk (Ze hB_ hb); (try clear hb); (try clear hb2); (try clear hk); (try clear hi); (try clear ho0); obtain ⟨Ao31, co31, eo31⟩ := ZP HO493.out; subst eo31))
       go_loopg [47] k2 (fun kq v47 w' => ∃ (x47_3 : Int), v47 = .int .i64 x47_3 ∧ Aside0 (impl_IsLine.l1 kq t491 t491 (t491.length : Int) x47_3 = some r) ∧ Aside0 (kq ≤ k2) ∧ Aside0 (Kd.R (Kd.int .i64) 3 w' w.heap.size (fun _ => True) (.slice Ao31 t491.length co31) t491) ∧ Aside0 (Kd.R (Kd.int .i64) 3 w' w.heap.size (fun _ => True) (.slice Ao31 t491.length co31) t491) ∧ Aside0 (w'.heap[gb484]? = some (.cells #[.int .i64 a0_0, (.slice A0_1 l0_1.length c0_1)] 27 (0, 0))) ∧ Aside0 (Below w.heap.size w w'))
       case atStart => exact ⟨(0), sm_, H', ⟨Nat.le_refl _⟩, ⟨rR_ HO493.out⟩, ⟨rR_ HO493.out⟩, ⟨bk_ BK484.out⟩, ⟨hB_⟩⟩
       case round =>
        clear H'
        try clear c1
        try clear c2
        try clear p2
        try clear c3
        try clear p4
        try clear q4
        try clear hx4
        try clear qi4
        try clear c6
        try clear p6
        try clear c7
        try clear c7b0
        try clear c7b1
        try clear c7b2
        try clear c8
        try clear c10
        try clear c10b0
        try clear c10b1
        try clear c17
        try clear c18
        try clear c18b0
        try clear c19
        try clear c19b0
        try clear c21
        try clear c21b0
        try clear c22
        try clear c22b0
        try clear c24
        try clear hx486_0
        try clear hx488_0
        try clear hx489_0
        try clear p2
        try clear p4
        try clear p486
        try clear p488
        try clear p489
        try clear q4
        try clear q486
        try clear q488
        try clear q489
        obtain ⟨x47_3, rfl, HA, HK3, HO_6, HO_45, BK484, HB⟩ := hrel
        cases gk with
        | zero => exact absurd HA.out (by simp [impl_IsLine.l1])
        | succ k3 =>
         have H := HA.out
         clear HA
         simp only [impl_IsLine.l1] at H
         by_cases c32 : x47_3 < (t491.length : Int)
         ·rw [if_pos c32] at H
          have c32b0 : decide (x47_3 < (t491.length : Int)) = true := decide_eq_true c32
          clear c32
          by_cases c33 : 0 ≤ x47_3
          ·rw [if_pos c33] at H
           have c33b0 : decide (0 ≤ x47_3) = true := decide_eq_true c33
           clear c33
           by_cases c34 : x47_3 < (t491.length : Int)
           ·rw [if_pos c34] at H
            have c34b0 : decide (x47_3 < (t491.length : Int)) = true := decide_eq_true c34
            clear c34
            have c35b0 := eq_true (of_decide_eq_true as_ : 0 ≤ x47_3)
            by_cases c36 : x47_3 ≤ (t491.length : Int)
            ·rw [if_pos c36] at H
             have c36b0 := eq_true c36
             have c36b1 : decide (x47_3 ≤ (t491.length : Int)) = true := decide_eq_true c36
             clear c36
             obtain ⟨y495, hy495⟩ : ∃ y_ : List Int, y_ = (t491.take (x47_3 : Int).toNat) := ⟨_, rfl⟩
             replace H : ((slices_Contains_int_int.f k3 y495 (rd t491 x47_3)).bind fun t499 => (if t499 = true then (some false) else (impl_IsLine.l1 k3 t491 t491 (t491.length : Int) (wrap64 (x47_3 + 1))))) = some r := hy_ hy495 H
             have Ny495 := Aside0.mk hy495
             clear hy495
             replace H := Option.bind_eq_some_iff.mp H
             obtain ⟨t499, A370, H⟩ := H
             replace H : (if t499 = true then (some false) else (impl_IsLine.l1 k3 t491 t491 (t491.length : Int) (wrap64 (x47_3 + 1)))) = some r := H
             have A37 := Aside0.mk A370
             clear A370
             by_cases c38 : t499 = true
             ·subst c38
              have H1 : (some false) = some r := by rw [if_pos rfl] at H; exact H
              clear H
              have H := H1
              clear H1
              obtain rfl := Option.some.inj H
              have p494 : 0 ≤ (x47_3 : Int) := of_decide_eq_true as_
              have q494 : x47_3 < (t491.length : Int) := of_decide_eq_true as_
              obtain ⟨ad494, e494, hx494_0⟩ := Zv (Zp HO_45.out).2.2 x47_3 p494 q494
              cases e494
              replace p494 := eq_true p494
              replace q494 := eq_true q494
              have q39 : (x47_3 : Int) ≤ ((t491.length : Int) : Int) := of_decide_eq_true as_
              obtain ⟨i039, hi039, _, hsz39, _⟩ := info_parts info3
              have hroom39 : t491.length ≤ co31 := (Zp HO_6.out).2.1
              have hC39 : Kd.C (Kd.int .i64) _ (some ad494) t491.length t491 := (Zp HO_6.out).2.2
              have hcut39 := cut_to (P := Try.prog) 31 3 .i64 Try.underlying31 hi039 (some ad494) t491.length co31 x47_3 (of_decide_eq_true as_) q39 hroom39
              have hr39 := Kd.C_take (m := (x47_3 : Int).toNat) hC39 (by omega)
              have hy39 : y495.length = (x47_3 : Int).toNat := (by first | (rw [Ny495.out, List.length_take]; omega))
              rw [← Ny495.out] at hr39
              rw [← hy39] at hcut39
              have HR498 := Aside0.mk hr39
              have HC498 := Aside0.mk (show y495.length ≤ co31 from by omega)
              clear hr39 hC39 hroom39 hi039 hsz39
              have KY39 := Aside0.mk hy39
              clear hy39
              have KL39 := Aside0.mk (show (x47_3 : Int).toNat ≤ t491.length from by omega)
              replace q39 := eq_true q39
              go_wp2_with (first | ((with_reducible refine Zj (f := 80) rfl ?_); refine ZE (some 56) rfl rfl Try.func80 (by kernel_rfl) rfl #[.slice (some ad494) y495.length co31, .int .i64 (rd t491 x47_3)] rfl ar_ ?_; (with_reducible refine (slices_Contains_int_int.calls k3 _ _ y495 (rd t491 x47_3) true _ ?side1 ?side2 A37.out).mono ?_); (case side1 => repeat (first | exact (cf_ HR498.out) | (with_reducible refine ZB ?_ _) | (with_reducible refine ZA ?_ _) | (with_reducible refine ZG ?_))); (case side2 => exact HC498.out); rintro e w' ⟨rfl, ⟨nd, rfl⟩⟩; refine ⟨_, rfl, ?_⟩))
              go_ret
              exact ⟨er_, hB_⟩
             ·replace c38 := Bool.eq_false_iff.mpr c38
              subst c38
              have H1 : (impl_IsLine.l1 k3 t491 t491 (t491.length : Int) (wrap64 (x47_3 + 1))) = some r := by rw [if_neg (show ¬ (false = true) by decide)] at H; exact H
              clear H
              have H := H1
              clear H1
              have H' := Aside0.mk H
              clear H
              have p494 : 0 ≤ (x47_3 : Int) := of_decide_eq_true as_
              have q494 : x47_3 < (t491.length : Int) := of_decide_eq_true as_
              obtain ⟨ad494, e494, hx494_0⟩ := Zv (Zp HO_45.out).2.2 x47_3 p494 q494
              cases e494
              replace p494 := eq_true p494
              replace q494 := eq_true q494
              have q40 : (x47_3 : Int) ≤ ((t491.length : Int) : Int) := of_decide_eq_true as_
              obtain ⟨i040, hi040, _, hsz40, _⟩ := info_parts info3
              have hroom40 : t491.length ≤ co31 := (Zp HO_6.out).2.1
              have hC40 : Kd.C (Kd.int .i64) _ (some ad494) t491.length t491 := (Zp HO_6.out).2.2
              have hcut40 := cut_to (P := Try.prog) 31 3 .i64 Try.underlying31 hi040 (some ad494) t491.length co31 x47_3 (of_decide_eq_true as_) q40 hroom40
              have hr40 := Kd.C_take (m := (x47_3 : Int).toNat) hC40 (by omega)
              have hy40 : y495.length = (x47_3 : Int).toNat := (by first | (rw [Ny495.out, List.length_take]; omega))
              rw [← Ny495.out] at hr40
              rw [← hy40] at hcut40
              have HR498 := Aside0.mk hr40
              have HC498 := Aside0.mk (show y495.length ≤ co31 from by omega)
              clear hr40 hC40 hroom40 hi040 hsz40
              have KY40 := Aside0.mk hy40
              clear hy40
              have KL40 := Aside0.mk (show (x47_3 : Int).toNat ≤ t491.length from by omega)
              replace q40 := eq_true q40
              go_wp2_with (first | ((with_reducible refine Zj (f := 80) rfl ?_); refine ZE (some 56) rfl rfl Try.func80 (by kernel_rfl) rfl #[.slice (some ad494) y495.length co31, .int .i64 (rd t491 x47_3)] rfl ar_ ?_; (with_reducible refine (slices_Contains_int_int.calls k3 _ _ y495 (rd t491 x47_3) false _ ?side1 ?side2 A37.out).mono ?_); (case side1 => repeat (first | exact (cf_ HR498.out) | (with_reducible refine ZB ?_ _) | (with_reducible refine ZA ?_ _) | (with_reducible refine ZG ?_))); (case side2 => exact HC498.out); rintro e w' ⟨rfl, ⟨nd, rfl⟩⟩; refine ⟨_, rfl, ?_⟩))
              go_roundg k3
              case measure => have := HJ2.out; have := HK2.out; have := HK3.out; omega
              case rel => exact ⟨(wrap64 (x47_3 + 1)), sm_, H', ⟨by have := HJ2.out; have := HK2.out; have := HK3.out; omega⟩, ⟨rR_ HO_6.out⟩, ⟨rR_ HO_45.out⟩, ⟨bk_ BK484.out⟩, ⟨hB_⟩⟩
            ·rw [if_neg c36] at H
             exact absurd H (by simp)
           ·rw [if_neg c34] at H
            exact absurd H (by simp)
          ·rw [if_neg c33] at H
           exact absurd H (by simp)
         ·rw [if_neg c32] at H
          have c32b0 : decide (x47_3 < (t491.length : Int)) = false := decide_eq_false c32
          clear c32
          obtain rfl := Option.some.inj H
          go_wp2
          go_ret
          exact ⟨er_, hB_⟩

end Go.Proofs.Ytdlobolnajcfnaa.PFnGames
