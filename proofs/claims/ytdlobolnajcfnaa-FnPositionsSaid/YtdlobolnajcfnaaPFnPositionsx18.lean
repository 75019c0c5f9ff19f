-- Written by a program of this session (hooks of mine on the print): Lean checks it.
import Derived.Test.YtdlobolnajcfnaaPFnPositionsx0
import Derived.Test.YtdlobolnajcfnaaPFnPositionsx1
import Derived.Test.YtdlobolnajcfnaaPFnPositionsx6
import Derived.Test.YtdlobolnajcfnaaPFnPositionsx7
import Derived.Test.YtdlobolnajcfnaaPFnPositionsx10
import Derived.Test.YtdlobolnajcfnaaPFnPositionsx14
import Derived.Test.YtdlobolnajcfnaaPFnPositionsx15
import Derived.Test.YtdlobolnajcfnaaPFnPositionsx16
import Derived.Test.YtdlobolnajcfnaaPFnPositionsx17
namespace Go.Proofs.Ytdlobolnajcfnaa.PFnPositions
open Go.RowKit Go.Proofs.YtdlobolnajcfnaaW.PrintWords Go.Proofs.YtdlobolnajcfnaaW.PrintLast Go.Proofs.YtdlobolnajcfnaaW.PrintMore
attribute [local go_sem] max2_int min2_int max_two min_two max_three min_three max_four min_four   -- for this text's walks alone
set_option linter.unusedVariables false
set_option linter.unusedSimpArgs false

/-! ### laws_FnPositions: function 5 -/
mutual
def laws_FnPositions.j0 : Nat → List (List Int) → List (List Int) → List (List Int) → Bool → Int → List (List Int) → Option (Bool)
 | 0, _, _, _, _, _, _ => none
 | k + 1, x4, x5, x6, x40, x612000, x612001 => if x40 = true then (some false) else (laws_FnPositions.l0 k x4 x5 x6 0 x612000 x612001)
def laws_FnPositions.l0 : Nat → List (List Int) → List (List Int) → List (List Int) → Int → Int → List (List Int) → Option (Bool)
 | 0, _, _, _, _, _, _ => none
 | k + 1, x4, x5, x6, x7, x612000, x612001 => if x7 < (x4.length : Int) then (if 0 ≤ x7 then ((impl_IsComplete.f k x612000 x612001 (rd_L2 x4 x7)).bind fun t626 => (if t626 = true then ((impl_Grounded.f k x612000 x612001).bind fun t627 => ((laws_within.f k t627 (rd_L2 x4 x7)).bind fun t631 => (if t631 = true then (laws_FnPositions.l0 k x4 x5 x6 (wrap64 (x7 + 1)) x612000 x612001) else (some false)))) else (some false))) else (none)) else (if (x4.length : Int) > 0 then ((impl_InAll.f k x4).bind fun t632 => ((impl_Grounded.f k x612000 x612001).bind fun t635 => ((laws_sameInts.f k t632 t635).bind fun t638 => (laws_FnPositions.j2 k x5 x6 (!t638) x612000 x612001)))) else (laws_FnPositions.j2 k x5 x6 false x612000 x612001))
def laws_FnPositions.j2 : Nat → List (List Int) → List (List Int) → Bool → Int → List (List Int) → Option (Bool)
 | 0, _, _, _, _, _ => none
 | k + 1, x5, x6, x74, x612000, x612001 => if x74 = true then (some false) else (laws_FnPositions.l1 k x5 x6 0 x612000 x612001)
def laws_FnPositions.l1 : Nat → List (List Int) → List (List Int) → Int → Int → List (List Int) → Option (Bool)
 | 0, _, _, _, _, _ => none
 | k + 1, x5, x6, x8, x612000, x612001 => if x8 < (x6.length : Int) then (laws_FnPositions.l2 k x5 x6 x8 false 0 x612000 x612001) else (laws_FnPositions.l3 k 0 x612000 x612001)
def laws_FnPositions.l2 : Nat → List (List Int) → List (List Int) → Int → Bool → Int → Int → List (List Int) → Option (Bool)
 | 0, _, _, _, _, _, _, _ => none
 | k + 1, x5, x6, x8, x9, x10, x612000, x612001 => if x10 < (x5.length : Int) then (if x9 = true then (laws_FnPositions.l2 k x5 x6 x8 true (wrap64 (x10 + 1)) x612000 x612001) else (if 0 ≤ x8 then (if x8 < (x6.length : Int) then (if 0 ≤ x10 then ((laws_sameInts.f k (rd_L2 x6 x8) (rd_L2 x5 x10)).bind fun t641 => (laws_FnPositions.l2 k x5 x6 x8 t641 (wrap64 (x10 + 1)) x612000 x612001)) else (none)) else (none)) else (none))) else (if x9 = true then (laws_FnPositions.l1 k x5 x6 (wrap64 (x8 + 1)) x612000 x612001) else (some false))
def laws_FnPositions.l3 : Nat → Int → Int → List (List Int) → Option (Bool)
 | 0, _, _, _ => none
 | k + 1, x11, x612000, x612001 => if x11 < x612000 then ((impl_IsGraph.f k x612000 x612001).bind fun t642 => (laws_FnPositions.j6 k x11 t642 x612000 x612001)) else (laws_FnPositions.j6 k x11 false x612000 x612001)
def laws_FnPositions.j6 : Nat → Int → Bool → Int → List (List Int) → Option (Bool)
 | 0, _, _, _, _ => none
 | k + 1, x11, x108, x612000, x612001 => if x108 = true then ((impl_Grounded.f k x612000 x612001).bind fun t643 => ((laws_contains.f k t643 x11).bind fun t646 => (if t646 = true then ((impl_IsCertain.f k x612000 x612001 x11).bind fun t647 => (if t647 = true then ((impl_IsCertain.f k x612000 x612001 x11).bind fun t648 => (if t648 = true then ((impl_IsCredible.f k x612000 x612001 x11).bind fun t649 => (if t649 = true then (laws_FnPositions.l3 k (wrap64 (x11 + 1)) x612000 x612001) else (some false))) else (laws_FnPositions.l3 k (wrap64 (x11 + 1)) x612000 x612001))) else (some false))) else ((impl_IsCertain.f k x612000 x612001 x11).bind fun t650 => (if t650 = true then ((impl_IsCredible.f k x612000 x612001 x11).bind fun t651 => (if t651 = true then (laws_FnPositions.l3 k (wrap64 (x11 + 1)) x612000 x612001) else (some false))) else (laws_FnPositions.l3 k (wrap64 (x11 + 1)) x612000 x612001)))))) else (some true)
end
def laws_FnPositions.f (k : Nat) (l0 : List Int) : Option (Bool) := (laws_big.f l0).bind fun t606 => (if t606 = true then (some true) else ((spec_DrawPreferred.f k l0).bind fun bt607 => ((impl_AllComplete.f k bt607.1 bt607.2).bind fun t612 => ((spec_AllComplete.f k bt607.1 bt607.2).bind fun t615 => (if (t612.length : Int) = (t615.length : Int) then ((impl_Preferred.f k bt607.1 bt607.2).bind fun t618 => ((impl_StableSets.f k bt607.1 bt607.2).bind fun t621 => ((impl_IsGraph.f k bt607.1 bt607.2).bind fun t624 => (if (t624 != (decide ((t618.length : Int) > 0))) = true then (laws_FnPositions.j0 k t612 t618 t621 true bt607.1 bt607.2) else (laws_FnPositions.j0 k t612 t618 t621 (decide ((t618.length : Int) > (t612.length : Int))) bt607.1 bt607.2))))) else (some false))))))
theorem laws_FnPositions.mono_l : ∀ k, (∀ y0 y1 y2 y3 y4 y5, LeO (laws_FnPositions.j0 k y0 y1 y2 y3 y4 y5) (laws_FnPositions.j0 (k + 1) y0 y1 y2 y3 y4 y5)) ∧ (∀ y0 y1 y2 y3 y4 y5, LeO (laws_FnPositions.l0 k y0 y1 y2 y3 y4 y5) (laws_FnPositions.l0 (k + 1) y0 y1 y2 y3 y4 y5)) ∧ (∀ y0 y1 y2 y3 y4, LeO (laws_FnPositions.j2 k y0 y1 y2 y3 y4) (laws_FnPositions.j2 (k + 1) y0 y1 y2 y3 y4)) ∧ (∀ y0 y1 y2 y3 y4, LeO (laws_FnPositions.l1 k y0 y1 y2 y3 y4) (laws_FnPositions.l1 (k + 1) y0 y1 y2 y3 y4)) ∧ (∀ y0 y1 y2 y3 y4 y5 y6, LeO (laws_FnPositions.l2 k y0 y1 y2 y3 y4 y5 y6) (laws_FnPositions.l2 (k + 1) y0 y1 y2 y3 y4 y5 y6)) ∧ (∀ y0 y1 y2, LeO (laws_FnPositions.l3 k y0 y1 y2) (laws_FnPositions.l3 (k + 1) y0 y1 y2)) ∧ (∀ y0 y1 y2 y3, LeO (laws_FnPositions.j6 k y0 y1 y2 y3) (laws_FnPositions.j6 (k + 1) y0 y1 y2 y3))
 | 0 => ⟨fun _ _ _ _ _ _ r h => by simp [laws_FnPositions.j0] at h, fun _ _ _ _ _ _ r h => by simp [laws_FnPositions.l0] at h, fun _ _ _ _ _ r h => by simp [laws_FnPositions.j2] at h, fun _ _ _ _ _ r h => by simp [laws_FnPositions.l1] at h, fun _ _ _ _ _ _ _ r h => by simp [laws_FnPositions.l2] at h, fun _ _ _ r h => by simp [laws_FnPositions.l3] at h, fun _ _ _ _ r h => by simp [laws_FnPositions.j6] at h⟩
 | k + 1 => by
  obtain ⟨ih0, ih1, ih2, ih3, ih4, ih5, ih6⟩ := laws_FnPositions.mono_l k
  refine ⟨?_, ?_, ?_, ?_, ?_, ?_, ?_⟩
  ·intro y0 y1 y2 y3 y4 y5
   unfold laws_FnPositions.j0
   repeat' with_reducible first | apply ih0 | apply ih1 | apply ih2 | apply ih3 | apply ih4 | apply ih5 | apply ih6 | apply impl_AllComplete.mono | apply impl_Grounded.mono | apply impl_InAll.mono | apply impl_IsCertain.mono | apply impl_IsComplete.mono | apply impl_IsCredible.mono | apply impl_IsGraph.mono | apply impl_Preferred.mono | apply impl_StableSets.mono | apply laws_contains.mono | apply laws_sameInts.mono | apply laws_within.mono | apply spec_AllComplete.mono | apply spec_DrawPreferred.mono | apply Zy | apply Zg | refine Zl ?_ ?_ | refine Zh ?_ (fun _ => ?_)
  ·intro y0 y1 y2 y3 y4 y5
   unfold laws_FnPositions.l0
   repeat' with_reducible first | apply ih0 | apply ih1 | apply ih2 | apply ih3 | apply ih4 | apply ih5 | apply ih6 | apply impl_AllComplete.mono | apply impl_Grounded.mono | apply impl_InAll.mono | apply impl_IsCertain.mono | apply impl_IsComplete.mono | apply impl_IsCredible.mono | apply impl_IsGraph.mono | apply impl_Preferred.mono | apply impl_StableSets.mono | apply laws_contains.mono | apply laws_sameInts.mono | apply laws_within.mono | apply spec_AllComplete.mono | apply spec_DrawPreferred.mono | apply Zy | apply Zg | refine Zl ?_ ?_ | refine Zh ?_ (fun _ => ?_)
  ·intro y0 y1 y2 y3 y4
   unfold laws_FnPositions.j2
   repeat' with_reducible first | apply ih0 | apply ih1 | apply ih2 | apply ih3 | apply ih4 | apply ih5 | apply ih6 | apply impl_AllComplete.mono | apply impl_Grounded.mono | apply impl_InAll.mono | apply impl_IsCertain.mono | apply impl_IsComplete.mono | apply impl_IsCredible.mono | apply impl_IsGraph.mono | apply impl_Preferred.mono | apply impl_StableSets.mono | apply laws_contains.mono | apply laws_sameInts.mono | apply laws_within.mono | apply spec_AllComplete.mono | apply spec_DrawPreferred.mono | apply Zy | apply Zg | refine Zl ?_ ?_ | refine Zh ?_ (fun _ => ?_)
  ·intro y0 y1 y2 y3 y4
   unfold laws_FnPositions.l1
   repeat' with_reducible first | apply ih0 | apply ih1 | apply ih2 | apply ih3 | apply ih4 | apply ih5 | apply ih6 | apply impl_AllComplete.mono | apply impl_Grounded.mono | apply impl_InAll.mono | apply impl_IsCertain.mono | apply impl_IsComplete.mono | apply impl_IsCredible.mono | apply impl_IsGraph.mono | apply impl_Preferred.mono | apply impl_StableSets.mono | apply laws_contains.mono | apply laws_sameInts.mono | apply laws_within.mono | apply spec_AllComplete.mono | apply spec_DrawPreferred.mono | apply Zy | apply Zg | refine Zl ?_ ?_ | refine Zh ?_ (fun _ => ?_)
  ·intro y0 y1 y2 y3 y4 y5 y6
   unfold laws_FnPositions.l2
   repeat' with_reducible first | apply ih0 | apply ih1 | apply ih2 | apply ih3 | apply ih4 | apply ih5 | apply ih6 | apply impl_AllComplete.mono | apply impl_Grounded.mono | apply impl_InAll.mono | apply impl_IsCertain.mono | apply impl_IsComplete.mono | apply impl_IsCredible.mono | apply impl_IsGraph.mono | apply impl_Preferred.mono | apply impl_StableSets.mono | apply laws_contains.mono | apply laws_sameInts.mono | apply laws_within.mono | apply spec_AllComplete.mono | apply spec_DrawPreferred.mono | apply Zy | apply Zg | refine Zl ?_ ?_ | refine Zh ?_ (fun _ => ?_)
  ·intro y0 y1 y2
   unfold laws_FnPositions.l3
   repeat' with_reducible first | apply ih0 | apply ih1 | apply ih2 | apply ih3 | apply ih4 | apply ih5 | apply ih6 | apply impl_AllComplete.mono | apply impl_Grounded.mono | apply impl_InAll.mono | apply impl_IsCertain.mono | apply impl_IsComplete.mono | apply impl_IsCredible.mono | apply impl_IsGraph.mono | apply impl_Preferred.mono | apply impl_StableSets.mono | apply laws_contains.mono | apply laws_sameInts.mono | apply laws_within.mono | apply spec_AllComplete.mono | apply spec_DrawPreferred.mono | apply Zy | apply Zg | refine Zl ?_ ?_ | refine Zh ?_ (fun _ => ?_)
  ·intro y0 y1 y2 y3
   unfold laws_FnPositions.j6
   repeat' with_reducible first | apply ih0 | apply ih1 | apply ih2 | apply ih3 | apply ih4 | apply ih5 | apply ih6 | apply impl_AllComplete.mono | apply impl_Grounded.mono | apply impl_InAll.mono | apply impl_IsCertain.mono | apply impl_IsComplete.mono | apply impl_IsCredible.mono | apply impl_IsGraph.mono | apply impl_Preferred.mono | apply impl_StableSets.mono | apply laws_contains.mono | apply laws_sameInts.mono | apply laws_within.mono | apply spec_AllComplete.mono | apply spec_DrawPreferred.mono | apply Zy | apply Zg | refine Zl ?_ ?_ | refine Zh ?_ (fun _ => ?_)
theorem laws_FnPositions.mono : ∀ a0 k, LeO (laws_FnPositions.f k a0) (laws_FnPositions.f (k + 1) a0) := by
 intro a0 k
 obtain ⟨ih0, ih1, ih2, ih3, ih4, ih5, ih6⟩ := laws_FnPositions.mono_l k
 unfold laws_FnPositions.f
 repeat' with_reducible first | apply ih0 | apply ih1 | apply ih2 | apply ih3 | apply ih4 | apply ih5 | apply ih6 | apply impl_AllComplete.mono | apply impl_Grounded.mono | apply impl_InAll.mono | apply impl_IsCertain.mono | apply impl_IsComplete.mono | apply impl_IsCredible.mono | apply impl_IsGraph.mono | apply impl_Preferred.mono | apply impl_StableSets.mono | apply laws_contains.mono | apply laws_sameInts.mono | apply laws_within.mono | apply spec_AllComplete.mono | apply spec_DrawPreferred.mono | apply Zy | apply Zg | refine Zl ?_ ?_ | refine Zh ?_ (fun _ => ?_)
def laws_FnPositions.T14 : Bool × List (List Nat × List Nat) := (true, [([], []), ([], []), ([], []), ([1, 2], [1, 2]), ([3], [3]), ([0, 4], [0, 4]), ([5], [5]), ([6, 5], [6]), ([7], [7]), ([8, 7, 7], [7, 8]), ([7], [7]), ([7], [7]), ([10, 11, 7], [7, 10, 11]), ([12, 7], [7, 12]), ([9, 13, 9, 7], [7, 9, 13]), ([14, 7], [7, 14]), ([7, 15], [7, 15])])
def laws_FnPositions.B14 : List Nat := [0, 0, 0, 6, 14, 31, 63, 127, 255, 511, 255, 255, 3327, 7423, 16383, 32767, 65535]
theorem laws_FnPositions.tab14 : rtab .any (opsOf Try.f5 14) = laws_FnPositions.T14 := by kernel_rfl
theorem laws_FnPositions.bits14 : waitsOk laws_FnPositions.T14.2 laws_FnPositions.B14 = true := by kernel_rfl
def laws_FnPositions.T16 : Bool × List (List Nat × List Nat) := (true, [([], []), ([0], [0]), ([1], [1]), ([2], [2]), ([3], [3]), ([4, 3, 3], [3, 4]), ([3], [3]), ([6, 5, 3], [3, 6]), ([5, 7, 7, 3], [3, 5, 7]), ([8, 3], [3, 8]), ([3, 9], [3, 9])])
def laws_FnPositions.B16 : List Nat := [0, 1, 3, 7, 15, 31, 15, 127, 255, 511, 1023]
theorem laws_FnPositions.tab16 : rtab .any (opsOf Try.f5 16) = laws_FnPositions.T16 := by kernel_rfl
theorem laws_FnPositions.bits16 : waitsOk laws_FnPositions.T16.2 laws_FnPositions.B16 = true := by kernel_rfl
def laws_FnPositions.T25 : Bool × List (List Nat × List Nat) := (true, [([], []), ([0], [0]), ([1], [1]), ([1], [1]), ([2, 3, 1], [1, 2, 3]), ([4, 1], [1, 4]), ([1], [1]), ([1], [1]), ([6, 7, 1], [1, 6, 7]), ([8, 1], [1, 8]), ([5, 9, 1, 1], [1, 5, 9]), ([1, 10], [1, 10]), ([11, 10, 0, 1, 2, 3, 4, 5, 6, 7, 8, 9, 10, 11], [0, 11])])
def laws_FnPositions.B25 : List Nat := [0, 1, 3, 3, 15, 31, 3, 3, 195, 451, 1023, 2047, 4095]
theorem laws_FnPositions.tab25 : rtab .any (opsOf Try.f5 25) = laws_FnPositions.T25 := by kernel_rfl
theorem laws_FnPositions.bits25 : waitsOk laws_FnPositions.T25.2 laws_FnPositions.B25 = true := by kernel_rfl
set_option maxHeartbeats 8000000 in
set_option maxRecDepth 100000 in
theorem laws_FnPositions.calls (k : Nat) (A0 : Option Addr) (c0 : Nat) (l0 : List Int) (r : Bool) (w : World) (hr0 : Kd.C (Kd.int .u8) w A0 l0.length l0) (hc0 : l0.length ≤ c0) (h : laws_FnPositions.f k l0 = some r) :
  Calls Try.prog 5 #[.slice A0 l0.length c0] w fun e w' => e = .returned (.bool r) ∧ Below w.heap.size w w' := by
 have hu27 := Try.underlying27
 have HR0 := Aside0.mk hr0
 have HC0 := Aside0.mk hc0
 clear hr0 hc0
 have HB := Aside0.mk (Below.refl w.heap.size w)
 have H := h
 unfold laws_FnPositions.f at H
 clear h
 obtain ⟨t606, A2, H⟩ := bd_ H
 try dsimp only at H
 by_cases c3 : t606 = true
 ·subst c3
  rw [if_pos rfl] at H
  try dsimp only at H
  obtain rfl := Option.some.inj H
  go_enter Try.func5, Try.ntmps5
  go_wp2_with (first | ((with_reducible refine Zf (f := 18) rfl ?_); refine ZC (some 13) rfl rfl Try.func18 (by kernel_rfl) rfl #[.slice A0 l0.length c0] rfl ar_ ?_; (with_reducible refine (laws_big.calls _ _ l0 true _ ?side1 ?side2 A2.out).mono ?_); (case side1 => exact sA_ HR0.out); (case side2 => exact HC0.out); rintro e w' ⟨rfl, ⟨nd, rfl⟩⟩; refine ⟨_, rfl, ?_⟩))
  all_goals go_ret
  all_goals exact ⟨er_, hB_⟩
 replace c3 := Bool.eq_false_iff.mpr c3
 subst c3
 rw [if_neg (show ¬ (false = true) by decide)] at H
 try dsimp only at H
 obtain ⟨⟨t607, t608⟩, A4, H⟩ := bd_ H
 try dsimp only at H
 obtain ⟨t612, A5, H⟩ := bd_ H
 try dsimp only at H
 obtain ⟨t615, A6, H⟩ := bd_ H
 try dsimp only at H
 by_cases c7 : (t612.length : Int) = (t615.length : Int)
 rotate_left
 ·rw [if_neg c7] at H
  have c7b0 : ((t612.length : Int) == (t615.length : Int)) = false := beq_eq_false_iff_ne.mpr c7
  have c7b1 : ((t612.length : Int) != (t615.length : Int)) = true := bne_iff_ne.mpr c7
  have c7b2 : (t612.length == t615.length) = false := by first | simpa using c7 | (simp at c7 ⊢; omega)
  obtain rfl := Option.some.inj H
  go_enter Try.func5, Try.ntmps5
  go_wp2_with (first | ((with_reducible refine Zf (f := 18) rfl ?_); refine ZC (some 13) rfl rfl Try.func18 (by kernel_rfl) rfl #[.slice A0 l0.length c0] rfl ar_ ?_; (with_reducible refine (laws_big.calls _ _ l0 false _ ?side1 ?side2 A2.out).mono ?_); (case side1 => exact sA_ HR0.out); (case side2 => exact HC0.out); rintro e w' ⟨rfl, ⟨nd, rfl⟩⟩; refine ⟨_, rfl, ?_⟩) | ((with_reducible refine Zf (f := 19) rfl ?_); refine ZC (some 15) rfl rfl Try.func19 (by kernel_rfl) rfl #[.slice A0 l0.length c0] rfl ar_ ?_; (with_reducible refine (spec_DrawPreferred.calls k _ _ l0 t607 t608 _ ?side1 ?side2 A4.out).mono ?_); (case side1 => exact sA_ HR0.out); (case side2 => exact HC0.out); rintro e w147 ⟨v609, rfl, ho0, hb⟩; refine ⟨_, rfl, ?_⟩; have HO610 := Aside0.mk (Kd.N_lower (ZB (ok' := fun k_ => True) (Kd.S_N (Kd.S_bound ho0)) (fun k_ hk_ => trivial)) (Ze hB_)); replace HB := Aside0.mk (Zc hB_ hb); (try clear hb); (try clear hk); (try clear ho0)) | ((with_reducible refine Zz (N := 3) rfl ?_); (try (refine gate_guard (by rfl) ?_; dsimp only)); refine ZI ?hg (N := 3) ?hd (cs := #[.int .i64 0, .slice none 0 0]) (t := 27) ?hr ?_; (case hd => rfl); (case hg => rfl); (case hr => first | (go_simp; done) | (go_simp; rfl)); intro gb611 hg w148 hbox hb; replace HO610 := Aside0.mk (ZH (Kd.N_elderB (rN_ HO610.out) gb611 (Nat.le_of_eq hg.symm)) hb); have BK611 := Aside0.mk (hbox); have GW611 := Aside0.mk ((hz_ hg : w.heap.size ≤ gb611)); have GE611 := Aside0.mk ((hz_ hg : w.heap.size ≤ gb611)); replace HB := Aside0.mk (Zc hB_ hb); clear hb hbox hg; obtain ⟨hcz149_0, hcz149_1, hfz149_0, hfz149_1⟩ := c2_ BK611.out; obtain ⟨Ao150, co150, eo150⟩ := Kd.N_slice HO610.out; subst eo150) | ((with_reducible refine Zf (f := 20) rfl ?_); refine ZC (some 17) rfl rfl Try.func20 (by kernel_rfl) rfl #[.agg #[.int .i64 t607, .slice Ao150 t608.length co150]] rfl ar_ ?_; (with_reducible refine (impl_AllComplete.calls k t607 _ _ t608 t612 _ ?side1 ?side2 A5.out).mono ?_); (case side1 => refine (Zn (e := 31) (base := w.heap.size) (ok := fun k_ => (True ∧ k_ ≠ gb611)) (n := t608.length) (c := co150) ?_).2.2; exact (by (with_reducible repeat (first | apply ZG | apply ZF | apply Zv)); exact (ZB (Kd.N_far (p := ⟨gb611, 1, none⟩) (Kd.N_far (p := ⟨gb611, 0, none⟩) (ZB HO610.out (fun k_ hk => (⟨hk, hk.2⟩ : _ ∧ k_ ≠ gb611))) (fun _ hk => hk.2) (.int .i64 t607)) (fun _ hk => hk.2) (.slice Ao150 t608.length co150)) (fun _ h_ => h_.1)))); (case side2 => exact (Zn HO610.out).2.1); rintro e w151 ⟨v613, rfl, ho0, hb⟩; refine ⟨_, rfl, ?_⟩; have HO614 := Aside0.mk (Kd.N_lower (ZB (ok' := fun k_ => some k_ ≠ (.slice Ao150 t608.length co150 : Value).ownBlock ∧ k_ ≠ gb611) (Kd.S_N (Kd.S_bound ho0)) (fun k_ hk_ => ⟨(ZM (Kd.N_lt (by (with_reducible repeat (first | apply ZG | apply ZF | apply Zv)); exact (ZB (Kd.N_far (p := ⟨gb611, 1, none⟩) (Kd.N_far (p := ⟨gb611, 0, none⟩) (ZB HO610.out (fun k_ hk => (⟨hk, hk.2⟩ : _ ∧ k_ ≠ gb611))) (fun _ hk => hk.2) (.int .i64 t607)) (fun _ hk => hk.2) (.slice Ao150 t608.length co150)) (fun _ h_ => h_.1)))) k_ hk_.2.1), (Kd.freshB (g := gb611) (o := .cells #[.int .i64 t607, .slice Ao150 t608.length co150] 27 (0, 0)) (by (with_reducible repeat (first | refine Zk ?_ _ | refine Zj ?_ | refine Zi ?_ _)); refine blk_put (cs := #[.int .i64 t607, .slice none 0 0]) ?_ 1 _ rfl; (with_reducible repeat (first | refine Zk ?_ _ | refine Zj ?_ | refine Zi ?_ _)); refine blk_put (cs := #[.int .i64 0, .slice none 0 0]) ?_ 0 _ rfl; (with_reducible repeat (first | refine Zk ?_ _ | refine Zj ?_ | refine Zi ?_ _)); exact BK611.out) k_ hk_.2.1)⟩)) (Ze hB_)); replace HO610 := Aside0.mk (Kd.N_elder' (by (with_reducible repeat (first | apply ZG | apply ZF | apply Zv)); exact (ZB (Kd.N_far (p := ⟨gb611, 1, none⟩) (Kd.N_far (p := ⟨gb611, 0, none⟩) (ZB HO610.out (fun k_ hk => (⟨hk, hk.2⟩ : _ ∧ k_ ≠ gb611))) (fun _ hk => hk.2) (.int .i64 t607)) (fun _ hk => hk.2) (.slice Ao150 t608.length co150)) (fun _ h_ => h_.1))) (Kd.S_base ho0) hb); replace BK611 := Aside0.mk (Zd (g := gb611) (o := .cells #[.int .i64 t607, .slice Ao150 t608.length co150] 27 (0, 0)) (by (with_reducible repeat (first | refine Zk ?_ _ | refine Zj ?_ | refine Zi ?_ _)); refine blk_put (cs := #[.int .i64 t607, .slice none 0 0]) ?_ 1 _ rfl; (with_reducible repeat (first | refine Zk ?_ _ | refine Zj ?_ | refine Zi ?_ _)); refine blk_put (cs := #[.int .i64 0, .slice none 0 0]) ?_ 0 _ rfl; (with_reducible repeat (first | refine Zk ?_ _ | refine Zj ?_ | refine Zi ?_ _)); exact BK611.out) hb); replace HB := Aside0.mk (Zc hB_ hb); (try clear hb); (try clear hk); (try clear ho0); obtain ⟨Ao152, co152, eo152⟩ := Kd.N_slice HO614.out; subst eo152; obtain ⟨hcz153_0, hcz153_1, hfz153_0, hfz153_1⟩ := c2_ BK611.out) | ((with_reducible refine Zf (f := 21) rfl ?_); refine ZC (some 21) rfl rfl Try.func21 (by kernel_rfl) rfl #[.agg #[.int .i64 t607, .slice Ao150 t608.length co150]] rfl ar_ ?_; (with_reducible refine (spec_AllComplete.calls k t607 _ _ t608 t615 _ ?side1 ?side2 A6.out).mono ?_); (case side1 => exact sA_ (Zn HO610.out).2.2); (case side2 => exact (Zn HO610.out).2.1); rintro e w154 ⟨v616, rfl, ho0, hb⟩; refine ⟨_, rfl, ?_⟩; have HO617 := Aside0.mk (Kd.N_lower (ZB (ok' := fun k_ => some k_ ≠ (.slice Ao150 t608.length co150 : Value).ownBlock ∧ some k_ ≠ (.slice Ao152 t612.length co152 : Value).ownBlock ∧ k_ ≠ gb611) ho0 (fun k_ hk_ => ⟨(ZM (Kd.N_lt (rN_ HO610.out)) k_ hk_), (ZM (Kd.N_lt (rN_ HO614.out)) k_ hk_), (Kd.freshB (bq_ BK611.out) k_ hk_)⟩)) (Ze hB_)); replace HO610 := Aside0.mk (Kd.N_elder' (rN_ HO610.out) (Kd.N_base ho0) hb); replace HO614 := Aside0.mk (Kd.N_elder' (rN_ HO614.out) (Kd.N_base ho0) hb); replace BK611 := Aside0.mk (Zd (bq_ BK611.out) hb); replace HB := Aside0.mk (Zc hB_ hb); (try clear hb); (try clear hk); (try clear ho0); obtain ⟨Ao155, co155, eo155⟩ := Kd.N_slice HO617.out; subst eo155))
  all_goals go_ret
  all_goals exact ⟨er_, hB_⟩
 rw [if_pos c7] at H
 have c7b0 : ((t612.length : Int) == (t615.length : Int)) = true := beq_iff_eq.mpr c7
 have c7b1 : ((t612.length : Int) != (t615.length : Int)) = false := bne_eq_false_iff_eq.mpr c7
 have c7b2 : (t612.length == t615.length) = true := by first | simpa using c7 | (simp at c7 ⊢; omega)
 clear c7
 obtain ⟨t618, A8, H⟩ := bd_ H
 try dsimp only at H
 obtain ⟨t621, A9, H⟩ := bd_ H
 try dsimp only at H
 have HC10 := Aside0.mk H
 clear H
 go_enter Try.func5, Try.ntmps5
 go_upto_region 9 with (first | ((with_reducible refine Zf (f := 18) rfl ?_); refine ZC (some 13) rfl rfl Try.func18 (by kernel_rfl) rfl #[.slice A0 l0.length c0] rfl ar_ ?_; (with_reducible refine (laws_big.calls _ _ l0 false _ ?side1 ?side2 A2.out).mono ?_); (case side1 => exact sA_ HR0.out); (case side2 => exact HC0.out); rintro e w' ⟨rfl, ⟨nd, rfl⟩⟩; refine ⟨_, rfl, ?_⟩) | ((with_reducible refine Zf (f := 19) rfl ?_); refine ZC (some 15) rfl rfl Try.func19 (by kernel_rfl) rfl #[.slice A0 l0.length c0] rfl ar_ ?_; (with_reducible refine (spec_DrawPreferred.calls k _ _ l0 t607 t608 _ ?side1 ?side2 A4.out).mono ?_); (case side1 => exact sA_ HR0.out); (case side2 => exact HC0.out); rintro e w11 ⟨v609, rfl, ho0, hb⟩; refine ⟨_, rfl, ?_⟩; have HO610 := Aside0.mk (Kd.N_lower (ZB (ok' := fun k_ => True) (Kd.S_N (Kd.S_bound ho0)) (fun k_ hk_ => trivial)) (Ze hB_)); replace HB := Aside0.mk (Zc hB_ hb); (try clear hb); (try clear hk); (try clear ho0)) | ((with_reducible refine Zz (N := 3) rfl ?_); (try (refine gate_guard (by rfl) ?_; dsimp only)); refine ZI ?hg (N := 3) ?hd (cs := #[.int .i64 0, .slice none 0 0]) (t := 27) ?hr ?_; (case hd => rfl); (case hg => rfl); (case hr => first | (go_simp; done) | (go_simp; rfl)); intro gb611 hg w12 hbox hb; replace HO610 := Aside0.mk (ZH (Kd.N_elderB (rN_ HO610.out) gb611 (Nat.le_of_eq hg.symm)) hb); have BK611 := Aside0.mk (hbox); have GW611 := Aside0.mk ((hz_ hg : w.heap.size ≤ gb611)); have GE611 := Aside0.mk ((hz_ hg : w.heap.size ≤ gb611)); replace HB := Aside0.mk (Zc hB_ hb); clear hb hbox hg; obtain ⟨hcz13_0, hcz13_1, hfz13_0, hfz13_1⟩ := c2_ BK611.out; obtain ⟨Ao14, co14, eo14⟩ := Kd.N_slice HO610.out; subst eo14) | ((with_reducible refine Zf (f := 20) rfl ?_); refine ZC (some 17) rfl rfl Try.func20 (by kernel_rfl) rfl #[.agg #[.int .i64 t607, .slice Ao14 t608.length co14]] rfl ar_ ?_; (with_reducible refine (impl_AllComplete.calls k t607 _ _ t608 t612 _ ?side1 ?side2 A5.out).mono ?_); (case side1 => refine (Zn (e := 31) (base := w.heap.size) (ok := fun k_ => (True ∧ k_ ≠ gb611)) (n := t608.length) (c := co14) ?_).2.2; exact (by (with_reducible repeat (first | apply ZG | apply ZF | apply Zv)); exact (ZB (Kd.N_far (p := ⟨gb611, 1, none⟩) (Kd.N_far (p := ⟨gb611, 0, none⟩) (ZB HO610.out (fun k_ hk => (⟨hk, hk.2⟩ : _ ∧ k_ ≠ gb611))) (fun _ hk => hk.2) (.int .i64 t607)) (fun _ hk => hk.2) (.slice Ao14 t608.length co14)) (fun _ h_ => h_.1)))); (case side2 => exact (Zn HO610.out).2.1); rintro e w15 ⟨v613, rfl, ho0, hb⟩; refine ⟨_, rfl, ?_⟩; have HO614 := Aside0.mk (Kd.N_lower (ZB (ok' := fun k_ => some k_ ≠ (.slice Ao14 t608.length co14 : Value).ownBlock ∧ k_ ≠ gb611) (Kd.S_N (Kd.S_bound ho0)) (fun k_ hk_ => ⟨(ZM (Kd.N_lt (by (with_reducible repeat (first | apply ZG | apply ZF | apply Zv)); exact (ZB (Kd.N_far (p := ⟨gb611, 1, none⟩) (Kd.N_far (p := ⟨gb611, 0, none⟩) (ZB HO610.out (fun k_ hk => (⟨hk, hk.2⟩ : _ ∧ k_ ≠ gb611))) (fun _ hk => hk.2) (.int .i64 t607)) (fun _ hk => hk.2) (.slice Ao14 t608.length co14)) (fun _ h_ => h_.1)))) k_ hk_.2.1), (Kd.freshB (g := gb611) (o := .cells #[.int .i64 t607, .slice Ao14 t608.length co14] 27 (0, 0)) (by (with_reducible repeat (first | refine Zk ?_ _ | refine Zj ?_ | refine Zi ?_ _)); refine blk_put (cs := #[.int .i64 t607, .slice none 0 0]) ?_ 1 _ rfl; (with_reducible repeat (first | refine Zk ?_ _ | refine Zj ?_ | refine Zi ?_ _)); refine blk_put (cs := #[.int .i64 0, .slice none 0 0]) ?_ 0 _ rfl; (with_reducible repeat (first | refine Zk ?_ _ | refine Zj ?_ | refine Zi ?_ _)); exact BK611.out) k_ hk_.2.1)⟩)) (Ze hB_)); replace HO610 := Aside0.mk (Kd.N_elder' (by (with_reducible repeat (first | apply ZG | apply ZF | apply Zv)); exact (ZB (Kd.N_far (p := ⟨gb611, 1, none⟩) (Kd.N_far (p := ⟨gb611, 0, none⟩) (ZB HO610.out (fun k_ hk => (⟨hk, hk.2⟩ : _ ∧ k_ ≠ gb611))) (fun _ hk => hk.2) (.int .i64 t607)) (fun _ hk => hk.2) (.slice Ao14 t608.length co14)) (fun _ h_ => h_.1))) (Kd.S_base ho0) hb); replace BK611 := Aside0.mk (Zd (g := gb611) (o := .cells #[.int .i64 t607, .slice Ao14 t608.length co14] 27 (0, 0)) (by (with_reducible repeat (first | refine Zk ?_ _ | refine Zj ?_ | refine Zi ?_ _)); refine blk_put (cs := #[.int .i64 t607, .slice none 0 0]) ?_ 1 _ rfl; (with_reducible repeat (first | refine Zk ?_ _ | refine Zj ?_ | refine Zi ?_ _)); refine blk_put (cs := #[.int .i64 0, .slice none 0 0]) ?_ 0 _ rfl; (with_reducible repeat (first | refine Zk ?_ _ | refine Zj ?_ | refine Zi ?_ _)); exact BK611.out) hb); replace HB := Aside0.mk (Zc hB_ hb); (try clear hb); (try clear hk); (try clear ho0); obtain ⟨Ao16, co16, eo16⟩ := Kd.N_slice HO614.out; subst eo16; obtain ⟨hcz17_0, hcz17_1, hfz17_0, hfz17_1⟩ := c2_ BK611.out) | ((with_reducible refine Zf (f := 21) rfl ?_); refine ZC (some 21) rfl rfl Try.func21 (by kernel_rfl) rfl #[.agg #[.int .i64 t607, .slice Ao14 t608.length co14]] rfl ar_ ?_; (with_reducible refine (spec_AllComplete.calls k t607 _ _ t608 t615 _ ?side1 ?side2 A6.out).mono ?_); (case side1 => exact sA_ (Zn HO610.out).2.2); (case side2 => exact (Zn HO610.out).2.1); rintro e w18 ⟨v616, rfl, ho0, hb⟩; refine ⟨_, rfl, ?_⟩; have HO617 := Aside0.mk (Kd.N_lower (ZB (ok' := fun k_ => some k_ ≠ (.slice Ao14 t608.length co14 : Value).ownBlock ∧ some k_ ≠ (.slice Ao16 t612.length co16 : Value).ownBlock ∧ k_ ≠ gb611) ho0 (fun k_ hk_ => ⟨(ZM (Kd.N_lt (rN_ HO610.out)) k_ hk_), (ZM (Kd.N_lt (rN_ HO614.out)) k_ hk_), (Kd.freshB (bq_ BK611.out) k_ hk_)⟩)) (Ze hB_)); replace HO610 := Aside0.mk (Kd.N_elder' (rN_ HO610.out) (Kd.N_base ho0) hb); replace HO614 := Aside0.mk (Kd.N_elder' (rN_ HO614.out) (Kd.N_base ho0) hb); replace BK611 := Aside0.mk (Zd (bq_ BK611.out) hb); replace HB := Aside0.mk (Zc hB_ hb); (try clear hb); (try clear hk); (try clear ho0); obtain ⟨Ao19, co19, eo19⟩ := Kd.N_slice HO617.out; subst eo19; obtain ⟨hcz20_0, hcz20_1, hfz20_0, hfz20_1⟩ := c2_ BK611.out) | ((with_reducible refine Zf (f := 22) rfl ?_); refine ZC (some 25) rfl rfl Try.func22 (by kernel_rfl) rfl #[.agg #[.int .i64 t607, .slice Ao14 t608.length co14]] rfl ar_ ?_; (with_reducible refine (impl_Preferred.calls k t607 _ _ t608 t618 _ ?side1 ?side2 A8.out).mono ?_); (case side1 => exact sA_ (Zn HO610.out).2.2); (case side2 => exact (Zn HO610.out).2.1); rintro e w21 ⟨v619, rfl, ho0, hb⟩; refine ⟨_, rfl, ?_⟩; have HO620 := Aside0.mk (Kd.N_lower (ZB (ok' := fun k_ => some k_ ≠ (.slice Ao14 t608.length co14 : Value).ownBlock ∧ some k_ ≠ (.slice Ao16 t612.length co16 : Value).ownBlock ∧ some k_ ≠ (.slice Ao19 t615.length co19 : Value).ownBlock ∧ k_ ≠ gb611) (Kd.S_N (Kd.S_bound ho0)) (fun k_ hk_ => ⟨(ZM (Kd.N_lt (rN_ HO610.out)) k_ hk_.2.1), (ZM (Kd.N_lt (rN_ HO614.out)) k_ hk_.2.1), (ZM (Kd.N_lt (rN_ HO617.out)) k_ hk_.2.1), (Kd.freshB (bq_ BK611.out) k_ hk_.2.1)⟩)) (Ze hB_)); replace HO610 := Aside0.mk (Kd.N_elder' (rN_ HO610.out) (Kd.S_base ho0) hb); replace HO614 := Aside0.mk (Kd.N_elder' (rN_ HO614.out) (Kd.S_base ho0) hb); replace HO617 := Aside0.mk (Kd.N_elder' (rN_ HO617.out) (Kd.S_base ho0) hb); replace BK611 := Aside0.mk (Zd (bq_ BK611.out) hb); replace HB := Aside0.mk (Zc hB_ hb); (try clear hb); (try clear hk); (try clear ho0); obtain ⟨hcz22_0, hcz22_1, hfz22_0, hfz22_1⟩ := c2_ BK611.out) | ((with_reducible refine Zf (f := 23) rfl ?_); refine ZC (some 27) rfl rfl Try.func23 (by kernel_rfl) rfl #[.agg #[.int .i64 t607, .slice Ao14 t608.length co14]] rfl ar_ ?_; (with_reducible refine (impl_StableSets.calls k t607 _ _ t608 t621 _ ?side1 ?side2 A9.out).mono ?_); (case side1 => exact sA_ (Zn HO610.out).2.2); (case side2 => exact (Zn HO610.out).2.1); rintro e w23 ⟨v622, rfl, ho0, hb⟩; refine ⟨_, rfl, ?_⟩; have HO623 := Aside0.mk (Kd.N_lower (ZB (ok' := fun k_ => some k_ ≠ (.slice Ao14 t608.length co14 : Value).ownBlock ∧ some k_ ≠ (.slice Ao16 t612.length co16 : Value).ownBlock ∧ some k_ ≠ (.slice Ao19 t615.length co19 : Value).ownBlock ∧ some k_ ≠ (v619 : Value).ownBlock ∧ k_ ≠ gb611) ho0 (fun k_ hk_ => ⟨(ZM (Kd.N_lt (rN_ HO610.out)) k_ hk_), (ZM (Kd.N_lt (rN_ HO614.out)) k_ hk_), (ZM (Kd.N_lt (rN_ HO617.out)) k_ hk_), (ZM (Kd.N_lt (rN_ HO620.out)) k_ hk_), (Kd.freshB (bq_ BK611.out) k_ hk_)⟩)) (Ze hB_)); replace HO610 := Aside0.mk (Kd.N_elder' (rN_ HO610.out) (Kd.N_base ho0) hb); replace HO614 := Aside0.mk (Kd.N_elder' (rN_ HO614.out) (Kd.N_base ho0) hb); replace HO617 := Aside0.mk (Kd.N_elder' (rN_ HO617.out) (Kd.N_base ho0) hb); replace HO620 := Aside0.mk (Kd.N_elder' (rN_ HO620.out) (Kd.N_base ho0) hb); replace BK611 := Aside0.mk (Zd (bq_ BK611.out) hb); replace HB := Aside0.mk (Zc hB_ hb); (try clear hb); (try clear hk); (try clear ho0)))
 (try simp only [Act.put, List.setIfInBounds_toArray, List.set_cons_zero, List.set_cons_succ])
 go_cut [40] (fun v40 wc => ∃ (kq : Nat) (x40_9 : Bool), v40 = .bool x40_9 ∧ Aside0 (laws_FnPositions.j0 kq t612 t618 t621 x40_9 t607 t608 = some r) ∧ Aside0 (kq ≤ k) ∧ Aside0 (Kd.N (Kd.slice 3 (Kd.int .i64)) 31 wc w.heap.size (fun k_ => some k_ ≠ (v619 : Value).ownBlock ∧ some k_ ≠ (v622 : Value).ownBlock ∧ some k_ ≠ ((.slice Ao14 t608.length co14) : Value).ownBlock ∧ k_ ≠ gb611) (.slice Ao16 t612.length co16) t612) ∧ Aside0 (Kd.N (Kd.slice 3 (Kd.int .i64)) 31 wc w.heap.size (fun k_ => some k_ ≠ ((.slice Ao16 t612.length co16) : Value).ownBlock ∧ some k_ ≠ (v622 : Value).ownBlock ∧ some k_ ≠ ((.slice Ao14 t608.length co14) : Value).ownBlock ∧ k_ ≠ gb611) v619 t618) ∧ Aside0 (Kd.N (Kd.slice 3 (Kd.int .i64)) 31 wc w.heap.size (fun k_ => some k_ ≠ ((.slice Ao16 t612.length co16) : Value).ownBlock ∧ some k_ ≠ (v619 : Value).ownBlock ∧ some k_ ≠ ((.slice Ao14 t608.length co14) : Value).ownBlock ∧ k_ ≠ gb611) v622 t621) ∧ Aside0 (Kd.N (Kd.slice 3 (Kd.int .i64)) 31 wc w.heap.size (fun k_ => some k_ ≠ ((.slice Ao16 t612.length co16) : Value).ownBlock ∧ some k_ ≠ (v619 : Value).ownBlock ∧ some k_ ≠ (v622 : Value).ownBlock ∧ k_ ≠ gb611) (.slice Ao14 t608.length co14) t608) ∧ Aside0 (wc.heap[gb611]? = some (.cells #[.int .i64 t607, (.slice Ao14 t608.length co14)] 27 (0, 0))) ∧ Aside0 (Below w.heap.size w wc))
 case first =>
  have H := HC10.out
  clear HC10
  obtain ⟨t624, A24, H⟩ := bd_ H
  try dsimp only at H
  by_cases c25 : (t624 != (decide ((t618.length : Int) > 0))) = true
  rotate_left
  ·rw [if_neg c25] at H
   have c25b0 : (t624 != (decide ((t618.length : Int) > 0))) = false := by simpa using c25
   have c25b4 : t624 = decide (0 < t618.length) := by have hz_ : decide ((t618.length : Int) > 0) = decide (0 < t618.length) := decide_eq_decide.2 (by omega); rw [hz_] at c25; simpa using c25
   (try (have c25b1 : decide (t624 = (decide ((t618.length : Int) > 0))) = true := by simpa using c25))
   (try (have c25b2 : (t624 == (decide ((t618.length : Int) > 0))) = true := by simpa using c25))
   clear c25
   (first | rw [c25b0] | (simp only [i64_w, i32_w]; rw [c25b0]) | rw [c25b1] | skip)
   have H' := Aside0.mk H
   clear H
   obtain ⟨hcz29_0, hcz29_1, hfz29_0, hfz29_1⟩ := c2_ BK611.out
   go_wp2_with (first | ((with_reducible refine Zf (f := 24) rfl ?_); refine ZC (some 29) rfl rfl Try.func24 (by kernel_rfl) rfl #[.agg #[.int .i64 t607, .slice Ao14 t608.length co14]] rfl ar_ ?_; (with_reducible refine (impl_IsGraph.calls k t607 _ _ t608 t624 _ ?side1 ?side2 A24.out).mono ?_); (case side1 => exact sA_ (Zn HO610.out).2.2); (case side2 => exact (Zn HO610.out).2.1); rintro e w30 ⟨rfl, hb⟩; refine ⟨_, rfl, ?_⟩; replace HO610 := Aside0.mk (ZH (rN_ HO610.out) hb); replace HO614 := Aside0.mk (ZH (rN_ HO614.out) hb); replace HO617 := Aside0.mk (ZH (rN_ HO617.out) hb); replace HO620 := Aside0.mk (ZH (rN_ HO620.out) hb); replace HO623 := Aside0.mk (ZH (rN_ HO623.out) hb); replace BK611 := Aside0.mk (Zd (bq_ BK611.out) hb); replace HB := Aside0.mk (Zc hB_ hb); (try clear hb); obtain ⟨Ao31, co31, eo31⟩ := Kd.N_slice HO620.out; subst eo31))
   go_meet
   case rel => exact ⟨_, (decide ((t618.length : Int) > (t612.length : Int))), sm_, H', ⟨by first | omega | exact Nat.le_refl _⟩, ⟨by (with_reducible repeat (first | apply ZG | apply ZF | apply Zv)); exact ZB HO614.out (fun _ hk => ⟨hk.1.2, ⟨hk.2, ⟨hk.1.1.1.1, hk.1.1.1.2⟩⟩⟩)⟩, ⟨by (with_reducible repeat (first | apply ZG | apply ZF | apply Zv)); exact ZB HO620.out (fun _ hk => ⟨hk.1.2.1, ⟨hk.2, ⟨hk.1.1, hk.1.2.2.2⟩⟩⟩)⟩, ⟨by (with_reducible repeat (first | apply ZG | apply ZF | apply Zv)); exact ZB HO623.out (fun _ hk => ⟨hk.2.1, ⟨hk.2.2.2.1, ⟨hk.1, hk.2.2.2.2⟩⟩⟩)⟩, ⟨by (with_reducible repeat (first | apply ZG | apply ZF | apply Zv)); exact ZB HO610.out (fun _ hk => ⟨hk.1.1.1.2, ⟨hk.1.2, ⟨hk.2, hk.1.1.1.1.2⟩⟩⟩)⟩, ⟨bk_ BK611.out⟩, ⟨hB_⟩⟩
  rw [if_pos c25] at H
  have c25b0 : (t624 != (decide ((t618.length : Int) > 0))) = true := c25
  have c25b4 : ¬ (t624 = decide (0 < t618.length)) := by have hz_ : decide ((t618.length : Int) > 0) = decide (0 < t618.length) := decide_eq_decide.2 (by omega); rw [hz_] at c25; simpa using c25
  (try (have c25b1 : decide (t624 = (decide ((t618.length : Int) > 0))) = false := by simpa using c25))
  (try (have c25b2 : (t624 == (decide ((t618.length : Int) > 0))) = false := by simpa using c25))
  (try (have c25b3 : ¬ (t624 = (decide ((t618.length : Int) > 0))) := by simpa using c25))
  clear c25
  (first | rw [c25b0] | (simp only [i64_w, i32_w]; rw [c25b0]) | rw [c25b1] | skip)
  have H' := Aside0.mk H
  clear H
  obtain ⟨hcz26_0, hcz26_1, hfz26_0, hfz26_1⟩ := c2_ BK611.out
  go_wp2_with (first | ((with_reducible refine Zf (f := 24) rfl ?_); refine ZC (some 29) rfl rfl Try.func24 (by kernel_rfl) rfl #[.agg #[.int .i64 t607, .slice Ao14 t608.length co14]] rfl ar_ ?_; (with_reducible refine (impl_IsGraph.calls k t607 _ _ t608 t624 _ ?side1 ?side2 A24.out).mono ?_); (case side1 => exact sA_ (Zn HO610.out).2.2); (case side2 => exact (Zn HO610.out).2.1); rintro e w27 ⟨rfl, hb⟩; refine ⟨_, rfl, ?_⟩; replace HO610 := Aside0.mk (ZH (rN_ HO610.out) hb); replace HO614 := Aside0.mk (ZH (rN_ HO614.out) hb); replace HO617 := Aside0.mk (ZH (rN_ HO617.out) hb); replace HO620 := Aside0.mk (ZH (rN_ HO620.out) hb); replace HO623 := Aside0.mk (ZH (rN_ HO623.out) hb); replace BK611 := Aside0.mk (Zd (bq_ BK611.out) hb); replace HB := Aside0.mk (Zc hB_ hb); (try clear hb); obtain ⟨Ao28, co28, eo28⟩ := Kd.N_slice HO620.out; subst eo28))
  go_meet
  case rel => exact ⟨_, (true), sm_, H', ⟨by first | omega | exact Nat.le_refl _⟩, ⟨by (with_reducible repeat (first | apply ZG | apply ZF | apply Zv)); exact ZB HO614.out (fun _ hk => ⟨hk.1.2, ⟨hk.2, ⟨hk.1.1.1.1, hk.1.1.1.2⟩⟩⟩)⟩, ⟨by (with_reducible repeat (first | apply ZG | apply ZF | apply Zv)); exact ZB HO620.out (fun _ hk => ⟨hk.1.2.1, ⟨hk.2, ⟨hk.1.1, hk.1.2.2.2⟩⟩⟩)⟩, ⟨by (with_reducible repeat (first | apply ZG | apply ZF | apply Zv)); exact ZB HO623.out (fun _ hk => ⟨hk.2.1, ⟨hk.2.2.2.1, ⟨hk.1, hk.2.2.2.2⟩⟩⟩)⟩, ⟨by (with_reducible repeat (first | apply ZG | apply ZF | apply Zv)); exact ZB HO610.out (fun _ hk => ⟨hk.1.1.1.2, ⟨hk.1.2, ⟨hk.2, hk.1.1.1.1.2⟩⟩⟩)⟩, ⟨bk_ BK611.out⟩, ⟨hB_⟩⟩
 case rest =>
  clear HC10
  try clear c1
  try clear c2
  try clear p2
  try clear c3
  try clear c5
  try clear c7
  try clear c7b0
  try clear c7b1
  try clear c7b2
  try clear c18
  try clear c19
  try clear c20
  try clear c21
  try clear c22
  try clear c23
  try clear c24
  try clear c25
  try clear c25b0
  try clear c25b1
  try clear c25b2
  try clear hcz13_0
  try clear hcz13_1
  try clear hcz17_0
  try clear hcz17_1
  try clear hcz20_0
  try clear hcz20_1
  try clear hcz22_0
  try clear hcz22_1
  try clear hcz26_0
  try clear hcz26_1
  try clear hcz29_0
  try clear hcz29_1
  try clear hfz13_0
  try clear hfz13_1
  try clear hfz17_0
  try clear hfz17_1
  try clear hfz20_0
  try clear hfz20_1
  try clear hfz22_0
  try clear hfz22_1
  try clear hfz26_0
  try clear hfz26_1
  try clear hfz29_0
  try clear hfz29_1
  obtain ⟨kq, x40_9, rfl, HA, HJ9, HO_4, HO_5, HO_6, HO_612001, BK611, HB⟩ := hcut
  cases kq with
  | zero => exact absurd HA.out (by simp [laws_FnPositions.j0])
  | succ kj9 =>
   have H := HA.out
   clear HA
   simp only [laws_FnPositions.j0] at H
   by_cases c32 : x40_9 = true
   ·subst c32
    rw [if_pos rfl] at H
    try dsimp only at H
    obtain rfl := Option.some.inj H
    go_wp2
    all_goals go_ret
    all_goals exact ⟨er_, hB_⟩
   replace c32 := Bool.eq_false_iff.mpr c32
   subst c32
   rw [if_neg (show ¬ (false = true) by decide)] at H
   try dsimp only at H
   have H' := Aside0.mk H
   clear H
   go_wp2
   go_loopg [7] kj9 (fun kq v7 w' => ∃ (x7_2 : Int), v7 = .int .i64 x7_2 ∧ Aside0 (laws_FnPositions.l0 kq t612 t618 t621 x7_2 t607 t608 = some r) ∧ Aside0 (kq ≤ kj9) ∧ Aside0 (Kd.N (Kd.slice 3 (Kd.int .i64)) 31 w' w.heap.size (fun k_ => some k_ ≠ (v619 : Value).ownBlock ∧ some k_ ≠ (v622 : Value).ownBlock ∧ some k_ ≠ ((.slice Ao14 t608.length co14) : Value).ownBlock ∧ k_ ≠ gb611) (.slice Ao16 t612.length co16) t612) ∧ Aside0 (Kd.N (Kd.slice 3 (Kd.int .i64)) 31 w' w.heap.size (fun k_ => some k_ ≠ ((.slice Ao16 t612.length co16) : Value).ownBlock ∧ some k_ ≠ (v622 : Value).ownBlock ∧ some k_ ≠ ((.slice Ao14 t608.length co14) : Value).ownBlock ∧ k_ ≠ gb611) v619 t618) ∧ Aside0 (Kd.N (Kd.slice 3 (Kd.int .i64)) 31 w' w.heap.size (fun k_ => some k_ ≠ ((.slice Ao16 t612.length co16) : Value).ownBlock ∧ some k_ ≠ (v619 : Value).ownBlock ∧ some k_ ≠ ((.slice Ao14 t608.length co14) : Value).ownBlock ∧ k_ ≠ gb611) v622 t621) ∧ Aside0 (Kd.N (Kd.slice 3 (Kd.int .i64)) 31 w' w.heap.size (fun k_ => some k_ ≠ ((.slice Ao16 t612.length co16) : Value).ownBlock ∧ some k_ ≠ (v619 : Value).ownBlock ∧ some k_ ≠ (v622 : Value).ownBlock ∧ k_ ≠ gb611) (.slice Ao14 t608.length co14) t608) ∧ Aside0 (w'.heap[gb611]? = some (.cells #[.int .i64 t607, (.slice Ao14 t608.length co14)] 27 (0, 0))) ∧ Aside0 (Below w.heap.size w w'))
   case atStart => exact ⟨(0), sm_, H', ⟨Nat.le_refl _⟩, ⟨rN_ HO_4.out⟩, ⟨rN_ HO_5.out⟩, ⟨rN_ HO_6.out⟩, ⟨rN_ HO_612001.out⟩, ⟨bk_ BK611.out⟩, ⟨hB_⟩⟩
   case round =>
    clear H'
    try clear c1
    try clear c2
    try clear p2
    try clear c3
    try clear c5
    try clear c7
    try clear c7b0
    try clear c7b1
    try clear c7b2
    try clear c18
    try clear c19
    try clear c20
    try clear c21
    try clear c22
    try clear c23
    try clear c24
    try clear c25
    try clear c25b0
    try clear c25b1
    try clear c25b2
    try clear c32
    try clear hcz13_0
    try clear hcz13_1
    try clear hcz17_0
    try clear hcz17_1
    try clear hcz20_0
    try clear hcz20_1
    try clear hcz22_0
    try clear hcz22_1
    try clear hcz26_0
    try clear hcz26_1
    try clear hcz29_0
    try clear hcz29_1
    try clear hfz13_0
    try clear hfz13_1
    try clear hfz17_0
    try clear hfz17_1
    try clear hfz20_0
    try clear hfz20_1
    try clear hfz22_0
    try clear hfz22_1
    try clear hfz26_0
    try clear hfz26_1
    try clear hfz29_0
    try clear hfz29_1
    try clear p2
    obtain ⟨x7_2, rfl, HA, HK2, HO_4, HO_5, HO_6, HO_612001, BK611, HB⟩ := hrel
    cases gk with
    | zero => exact absurd HA.out (by simp [laws_FnPositions.l0])
    | succ k2 =>
     have H := HA.out
     clear HA
     simp only [laws_FnPositions.l0] at H
     by_cases c33 : x7_2 < (t612.length : Int)
     ·rw [if_pos c33] at H
      have c33b0 : decide (x7_2 < (t612.length : Int)) = true := decide_eq_true c33
      (try (have c33z := c33b0; rw [hl625_0] at c33z))
      clear c33
      by_cases c34 : 0 ≤ x7_2
      rotate_left
      ·rw [if_neg c34] at H
       exact absurd H (by simp)
      rw [if_pos c34] at H
      have c34b0 : decide (0 ≤ x7_2) = true := decide_eq_true c34
      clear c34
      obtain ⟨t626, A35, H⟩ := bd_ H
      try dsimp only at H
      by_cases c36 : t626 = true
      rotate_left
      ·replace c36 := Bool.eq_false_iff.mpr c36
       subst c36
       rw [if_neg (show ¬ (false = true) by decide)] at H
       try dsimp only at H
       obtain rfl := Option.some.inj H
       try go_wp2
       replace HO_4 := Aside0.mk (Zv HO_4.out)
       replace HO_5 := Aside0.mk (Zv HO_5.out)
       replace HO_6 := Aside0.mk (Zv HO_6.out)
       replace HO_612001 := Aside0.mk (Zv HO_612001.out)
       replace BK611 := Aside0.mk (Zj BK611.out)
       replace HB := Aside0.mk (Zq HB.out)
       have p625 : 0 ≤ (x7_2 : Int) := of_decide_eq_true as_
       have q625 : x7_2 < (t612.length : Int) := of_decide_eq_true as_
       obtain ⟨ad625, A625_0, c625_0, e625, hx625_0, hl625_0, hi625_0⟩ := at_L2 (Zn HO_4.out).2.2 x7_2 p625 q625
       cases e625
       obtain ⟨ce625, hce625, hMe625, hcc625⟩ := Kd.N_get HO_4.out [] x7_2 p625 (by first | exact q625 | exact of_decide_eq_true as_ | (have e_ := (Zn HO_4.out).1; omega))
       obtain ⟨ua625_0, uc625_0, rfl, ul625_0, ge625_0⟩ := Kd.FK_slice_open hMe625
       have hv625_0 := hcc625 0 _ rfl
       rw [Nat.add_zero, show ((Kd.slice 3 (Kd.int .i64))).sz = 1 from rfl, Nat.mul_one] at hv625_0
       replace hv625_0 := Option.some.inj (hv625_0.symm.trans hx625_0)
       injection hv625_0 with hva_ hvn_ hvc_
       rw [hva_] at ge625_0
       rw [hvc_] at ul625_0
       have HL625_0 := Aside0.mk (show Kd.V (Kd.int .i64) 3 _ w.heap.size _ _ (rd_L2 t612 x7_2) from Kd.V_mk ul625_0 ge625_0)
       clear hva_ hvn_ hvc_ ge625_0 ul625_0
       clear hcc625 hce625
       have HR625_0 := Aside0.mk hi625_0
       have HC625_0 := Aside0.mk hl625_0
       clear hi625_0 hl625_0
       replace p625 := eq_true p625
       replace q625 := eq_true q625
       refine start_ (n := 17) (S := fun w' => w'.cell? ⟨gb611, 0, none⟩ = some (.int .i64 t607) ∧ w'.cell? ⟨gb611, 1, none⟩ = some (.slice Ao14 t608.length co14) ∧ w'.cell? (ad625.add (x7_2).toNat) = some (.slice A625_0 (rd_L2 t612 x7_2).length c625_0)) (ds := []) (m_ 17 0) (by kernel_rfl) rfl rfl ⟨(Za BK611.out 0).trans rfl, (Za BK611.out 1).trans rfl, hx625_0⟩ (fun hHeld => ?_); refine with_tabW laws_FnPositions.tab14 laws_FnPositions.bits14 (fun HT_ HW_ => ?_)
       generalize wr.drew = w48 at HO_4 HO_5 HO_6 HO_612001 BK611 HB HL625_0 HR625_0 hx625_0 hHeld ⊢
       refine pu_ 1 48 (m_ 17 2) ?_
       refine pu_ 2 49 (m_ 17 6) ?_
       refine pu_ 3 50 (m_ 17 14) ?_
       refine tk3_ 0 47 (m_ 17 15) hHeld ?_
       refine tk3_ 4 51 (m_ 17 31) hHeld ?_
       refine on_ 5 52 (m_ 17 63) (fun K hK => ?_)
       refine goes_ Try.func25 (by kernel_rfl) rfl #[.agg #[.int .i64 t607, .slice Ao14 t608.length co14], .slice A625_0 (rd_L2 t612 x7_2).length c625_0] (by rfl) rfl rfl ar_ ?_
       with_reducible refine (impl_IsComplete.calls k2 t607 _ _ t608 _ _ (rd_L2 t612 x7_2) false _ ?side1 ?side2 ?side3 ?side4 A35.out).mono ?_
       (case side1 => exact sA_ (Zn HO_612001.out).2.2)
       (case side2 => exact (Zn HO_612001.out).2.1)
       (case side3 => exact sA_ (cf_ HR625_0.out))
       (case side4 => exact HC625_0.out)
       rintro e w49 ⟨rfl, hb⟩
       have HS2_ := (hb.cell (World.block_lt_of_cell? _ _ (hHeld.2.2))).trans (hHeld.2.2)
       refine ⟨_, rfl, ?_⟩
       have n0_ := Aside0.mk (ZH (rN_ HO_4.out) hb)
       have n1_ := Aside0.mk (ZH (rN_ HO_5.out) hb)
       have n2_ := Aside0.mk (ZH (rN_ HO_6.out) hb)
       have n3_ := Aside0.mk (ZH (rN_ HO_612001.out) hb)
       have n4_ := Aside0.mk (Kd.V_below (by (with_reducible repeat (first | apply ZQ | apply ZO | apply ZS)); exact HL625_0.out) hb)
       have n5_ := Aside0.mk (Zd (bq_ BK611.out) hb)
       have n6_ := Aside0.mk (Kd.C_below (cf_ HR625_0.out) hb)
       have n7_ := Aside0.mk (Zc hB_ hb)
       clear HO_4
       clear HO_5
       clear HO_6
       clear HO_612001
       clear HL625_0
       clear BK611
       clear HR625_0
       clear HB
       have HO_4 := n0_
       have HO_5 := n1_
       have HO_6 := n2_
       have HO_612001 := n3_
       have HL625_0 := n4_
       have BK611 := n5_
       have HR625_0 := n6_
       have HB := n7_
       clear n0_ n1_ n2_ n3_ n4_ n5_ n6_ n7_
       (try clear hb)
       (try clear hb2)
       (try clear hk)
       (try clear hi)
       refine hK.out _ _ ⟨(Za BK611.out 0).trans rfl, (Za BK611.out 1).trans rfl, HS2_⟩ (fun hHeld => ?_)
       clear hK K
       refine no_ 52 ?_
       refine pu_ 6 53 (m_ 17 127) ?_
       refine pu_ 7 54 (m_ 17 255) ?_
       refine pn_ 8 55 (m_ 17 511) ?_
       refine pn_ 9 56 (m_ 17 1023) ?_
       refine pn_ 10 57 (m_ 17 2047) ?_
       refine pn_ 11 58 (m_ 17 4095) ?_
       refine pn_ 12 59 (m_ 17 8191) ?_
       refine pn_ 13 60 (m_ 17 16383) ?_
       refine pn_ 14 61 (m_ 17 32767) ?_
       refine pn_ 15 62 (m_ 17 65535) ?_
       refine pu_ 16 63 (m_ 17 131071) ?_
       refine done_ (done_of HT_.out (by kernel_rfl)) ?_
       try go_wp2
       all_goals go_ret
       all_goals exact ⟨er_, hB_⟩
      subst c36
      rw [if_pos rfl] at H
      try dsimp only at H
      obtain ⟨t627, A37, H⟩ := bd_ H
      try dsimp only at H
      obtain ⟨t631, A38, H⟩ := bd_ H
      try dsimp only at H
      by_cases c39 : t631 = true
      rotate_left
      ·replace c39 := Bool.eq_false_iff.mpr c39
       subst c39
       rw [if_neg (show ¬ (false = true) by decide)] at H
       try dsimp only at H
       obtain rfl := Option.some.inj H
       try go_wp2
       replace HO_4 := Aside0.mk (Zv HO_4.out)
       replace HO_5 := Aside0.mk (Zv HO_5.out)
       replace HO_6 := Aside0.mk (Zv HO_6.out)
       replace HO_612001 := Aside0.mk (Zv HO_612001.out)
       replace BK611 := Aside0.mk (Zj BK611.out)
       replace HB := Aside0.mk (Zq HB.out)
       have p625 : 0 ≤ (x7_2 : Int) := of_decide_eq_true as_
       have q625 : x7_2 < (t612.length : Int) := of_decide_eq_true as_
       obtain ⟨ad625, A625_0, c625_0, e625, hx625_0, hl625_0, hi625_0⟩ := at_L2 (Zn HO_4.out).2.2 x7_2 p625 q625
       cases e625
       obtain ⟨ce625, hce625, hMe625, hcc625⟩ := Kd.N_get HO_4.out [] x7_2 p625 (by first | exact q625 | exact of_decide_eq_true as_ | (have e_ := (Zn HO_4.out).1; omega))
       obtain ⟨ua625_0, uc625_0, rfl, ul625_0, ge625_0⟩ := Kd.FK_slice_open hMe625
       have hv625_0 := hcc625 0 _ rfl
       rw [Nat.add_zero, show ((Kd.slice 3 (Kd.int .i64))).sz = 1 from rfl, Nat.mul_one] at hv625_0
       replace hv625_0 := Option.some.inj (hv625_0.symm.trans hx625_0)
       injection hv625_0 with hva_ hvn_ hvc_
       rw [hva_] at ge625_0
       rw [hvc_] at ul625_0
       have HL625_0 := Aside0.mk (show Kd.V (Kd.int .i64) 3 _ w.heap.size _ _ (rd_L2 t612 x7_2) from Kd.V_mk ul625_0 ge625_0)
       clear hva_ hvn_ hvc_ ge625_0 ul625_0
       clear hcc625 hce625
       have HR625_0 := Aside0.mk hi625_0
       have HC625_0 := Aside0.mk hl625_0
       clear hi625_0 hl625_0
       replace p625 := eq_true p625
       replace q625 := eq_true q625
       have p630 : 0 ≤ (x7_2 : Int) := of_decide_eq_true as_
       have q630 : x7_2 < (t612.length : Int) := of_decide_eq_true as_
       obtain ⟨ad630, A630_0, c630_0, e630, hx630_0, hl630_0, hi630_0⟩ := at_L2 (Zn HO_4.out).2.2 x7_2 p630 q630
       obtain rfl : ad625 = ad630 := (by injection e630)
       obtain ⟨ce630, hce630, hMe630, hcc630⟩ := Kd.N_get HO_4.out [] x7_2 p630 (by first | exact q630 | exact of_decide_eq_true as_ | (have e_ := (Zn HO_4.out).1; omega))
       obtain ⟨ua630_0, uc630_0, rfl, ul630_0, ge630_0⟩ := Kd.FK_slice_open hMe630
       have hv630_0 := hcc630 0 _ rfl
       rw [Nat.add_zero, show ((Kd.slice 3 (Kd.int .i64))).sz = 1 from rfl, Nat.mul_one] at hv630_0
       replace hv630_0 := Option.some.inj (hv630_0.symm.trans hx630_0)
       injection hv630_0 with hva_ hvn_ hvc_
       rw [hva_] at ge630_0
       rw [hvc_] at ul630_0
       have HL630_0 := Aside0.mk (show Kd.V (Kd.int .i64) 3 _ w.heap.size _ _ (rd_L2 t612 x7_2) from Kd.V_mk ul630_0 ge630_0)
       clear hva_ hvn_ hvc_ ge630_0 ul630_0
       clear hcc630 hce630
       have HR630_0 := Aside0.mk hi630_0
       have HC630_0 := Aside0.mk hl630_0
       obtain ⟨rfl, rfl⟩ : A625_0 = A630_0 ∧ c625_0 = c630_0 := by have h_ := hx625_0.symm.trans hx630_0; injection h_ with h_; injection h_ with h1_ h2_ h3_; exact ⟨h1_, h3_⟩
       clear hi630_0 hl630_0
       replace p630 := eq_true p630
       replace q630 := eq_true q630
       refine start_ (n := 17) (S := fun w' => w'.cell? ⟨gb611, 0, none⟩ = some (.int .i64 t607) ∧ w'.cell? ⟨gb611, 1, none⟩ = some (.slice Ao14 t608.length co14) ∧ w'.cell? (ad625.add (x7_2).toNat) = some (.slice A625_0 (rd_L2 t612 x7_2).length c625_0) ∧ w'.cell? (ad625.add (x7_2).toNat) = some (.slice A625_0 (rd_L2 t612 x7_2).length c625_0)) (ds := []) (m_ 17 0) (by kernel_rfl) rfl rfl ⟨(Za BK611.out 0).trans rfl, (Za BK611.out 1).trans rfl, hx625_0, hx630_0⟩ (fun hHeld => ?_); refine with_tabW laws_FnPositions.tab14 laws_FnPositions.bits14 (fun HT_ HW_ => ?_)
       generalize wr.drew = w44 at HO_4 HO_5 HO_6 HO_612001 BK611 HB HL625_0 HL630_0 HR625_0 HR630_0 hx625_0 hx630_0 hHeld ⊢
       refine pu_ 1 48 (m_ 17 2) ?_
       refine pu_ 2 49 (m_ 17 6) ?_
       refine pu_ 3 50 (m_ 17 14) ?_
       refine tk4_ 0 47 (m_ 17 15) hHeld ?_
       refine tk4_ 4 51 (m_ 17 31) hHeld ?_
       refine on_ 5 52 (m_ 17 63) (fun K hK => ?_)
       refine goes_ Try.func25 (by kernel_rfl) rfl #[.agg #[.int .i64 t607, .slice Ao14 t608.length co14], .slice A625_0 (rd_L2 t612 x7_2).length c625_0] (by rfl) rfl rfl ar_ ?_
       with_reducible refine (impl_IsComplete.calls k2 t607 _ _ t608 _ _ (rd_L2 t612 x7_2) true _ ?side1 ?side2 ?side3 ?side4 A35.out).mono ?_
       (case side1 => exact sA_ (Zn HO_612001.out).2.2)
       (case side2 => exact (Zn HO_612001.out).2.1)
       (case side3 => exact sA_ (cf_ HR625_0.out))
       (case side4 => exact HC625_0.out)
       rintro e w45 ⟨rfl, hb⟩
       have HS2_ := (hb.cell (World.block_lt_of_cell? _ _ (hHeld.2.2.1))).trans (hHeld.2.2.1)
       have HS3_ := (hb.cell (World.block_lt_of_cell? _ _ (hHeld.2.2.2))).trans (hHeld.2.2.2)
       refine ⟨_, rfl, ?_⟩
       have n0_ := Aside0.mk (ZH (rN_ HO_4.out) hb)
       have n1_ := Aside0.mk (ZH (rN_ HO_5.out) hb)
       have n2_ := Aside0.mk (ZH (rN_ HO_6.out) hb)
       have n3_ := Aside0.mk (ZH (rN_ HO_612001.out) hb)
       have n4_ := Aside0.mk (Kd.V_below (by (with_reducible repeat (first | apply ZQ | apply ZO | apply ZS)); exact HL625_0.out) hb)
       have n5_ := Aside0.mk (Zd (bq_ BK611.out) hb)
       have n6_ := Aside0.mk (Kd.C_below (cf_ HR625_0.out) hb)
       have n7_ := Aside0.mk (Zc hB_ hb)
       clear HO_4
       clear HO_5
       clear HO_6
       clear HO_612001
       clear HL625_0
       clear BK611
       clear HR625_0
       clear HB
       have HO_4 := n0_
       have HO_5 := n1_
       have HO_6 := n2_
       have HO_612001 := n3_
       have HL625_0 := n4_
       have BK611 := n5_
       have HR625_0 := n6_
       have HB := n7_
       clear n0_ n1_ n2_ n3_ n4_ n5_ n6_ n7_
       (try clear hb)
       (try clear hb2)
       (try clear hk)
       (try clear hi)
       refine hK.out _ _ ⟨(Za BK611.out 0).trans rfl, (Za BK611.out 1).trans rfl, HS2_, HS3_⟩ (fun hHeld => ?_)
       clear hK K
       refine no_ 52 ?_
       refine pu_ 6 53 (m_ 17 127) ?_
       refine pu_ 7 54 (m_ 17 255) ?_
       refine pu_ 10 57 (m_ 17 1279) ?_
       refine pu_ 11 58 (m_ 17 3327) ?_
       refine pu_ 12 59 (m_ 17 7423) ?_
       refine tk4_ 8 55 (m_ 17 7679) hHeld ?_
       refine tk4_ 13 60 (m_ 17 15871) hHeld ?_
       refine on_ 9 56 (m_ 17 16383) (fun K hK => ?_)
       refine goes_ Try.func27 (by kernel_rfl) rfl #[.agg #[.int .i64 t607, .slice Ao14 t608.length co14]] (by rfl) rfl rfl ar_ ?_
       with_reducible refine (impl_Grounded.calls k2 t607 _ _ t608 t627 _ ?side1 ?side2 A37.out).mono ?_
       (case side1 => exact sA_ (Zn HO_612001.out).2.2)
       (case side2 => exact (Zn HO_612001.out).2.1)
       rintro e w46 ⟨v628, rfl, ho0, hb⟩
       have HS2_ := (hb.cell (World.block_lt_of_cell? _ _ (hHeld.2.2.1))).trans (hHeld.2.2.1)
       have HS3_ := (hb.cell (World.block_lt_of_cell? _ _ (hHeld.2.2.2))).trans (hHeld.2.2.2)
       refine ⟨_, rfl, ?_⟩
       have n0_ := Aside0.mk (ZH (rN_ HO_4.out) hb)
       have n1_ := Aside0.mk (ZH (rN_ HO_5.out) hb)
       have n2_ := Aside0.mk (ZH (rN_ HO_6.out) hb)
       have n3_ := Aside0.mk (ZH (rN_ HO_612001.out) hb)
       have n4_ := Aside0.mk (Kd.V_below (by (with_reducible repeat (first | apply ZQ | apply ZO | apply ZS)); exact HL625_0.out) hb)
       have n5_ := Aside0.mk (Kd.V_lower (ZR (ok' := fun k_ => some k_ ≠ (.slice (some ad625) t612.length co16 : Value).ownBlock ∧ some k_ ≠ (v619 : Value).ownBlock ∧ some k_ ≠ (v622 : Value).ownBlock ∧ some k_ ≠ (.slice Ao14 t608.length co14 : Value).ownBlock ∧ k_ ≠ gb611) ho0 (fun k_ hk_ => ⟨(ZM (Kd.N_lt (rN_ HO_4.out)) k_ hk_), (ZM (Kd.N_lt (rN_ HO_5.out)) k_ hk_), (ZM (Kd.N_lt (rN_ HO_6.out)) k_ hk_), (ZM (Kd.N_lt (rN_ HO_612001.out)) k_ hk_), (Kd.freshB (bq_ BK611.out) k_ hk_)⟩)) (Ze hB_))
       have n6_ := Aside0.mk (Zd (bq_ BK611.out) hb)
       have n7_ := Aside0.mk (Kd.C_below (cf_ HR625_0.out) hb)
       have n8_ := Aside0.mk (Zc hB_ hb)
       clear HO_4
       clear HO_5
       clear HO_6
       clear HO_612001
       clear HL625_0
       clear BK611
       clear HR625_0
       clear HB
       have HO_4 := n0_
       have HO_5 := n1_
       have HO_6 := n2_
       have HO_612001 := n3_
       have HL625_0 := n4_
       have HO629 := n5_
       have BK611 := n6_
       have HR625_0 := n7_
       have HB := n8_
       clear n0_ n1_ n2_ n3_ n4_ n5_ n6_ n7_ n8_
       (try clear hb)
       (try clear hb2)
       (try clear hk)
       (try clear hi)
       (try clear ho0)
       obtain ⟨Ao47, co47, eo47⟩ := Kd.V_slice HO629.out
       (first | subst eo47 | (injection eo47 with f1_ f2_ f3_; have f4_ := f1_.symm; have f5_ := f3_.symm; clear f1_ f2_ f3_; subst f4_; subst f5_))
       refine hK.out _ _ ⟨(Za BK611.out 0).trans rfl, (Za BK611.out 1).trans rfl, HS2_, HS3_⟩ (fun hHeld => ?_)
       clear hK K
       refine no_ 56 ?_
       refine on_ 14 61 (m_ 17 32767) (fun K hK => ?_)
       refine goes_ Try.func26 (by kernel_rfl) rfl #[.slice Ao47 t627.length co47, .slice A625_0 (rd_L2 t612 x7_2).length c625_0] (by rfl) rfl rfl ar_ ?_
       with_reducible refine (laws_within.calls k2 _ _ t627 _ _ (rd_L2 t612 x7_2) false _ ?side1 ?side2 ?side3 ?side4 A38.out).mono ?_
       (case side1 => exact sA_ (Kd.V_reads' HO629.out).2.2)
       (case side2 => exact (Kd.V_reads' HO629.out).2.1)
       (case side3 => exact sA_ (cf_ HR625_0.out))
       (case side4 => exact HC630_0.out)
       rintro e w' ⟨rfl, ⟨nd, rfl⟩⟩
       refine ⟨_, rfl, ?_⟩
       refine hK.out _ _ ⟨(Za BK611.out 0).trans rfl, (Za BK611.out 1).trans rfl, hHeld.2.2.1, hHeld.2.2.2⟩ (fun hHeld => ?_)
       clear hK K
       refine no_ 61 ?_
       refine pu_ 15 62 (m_ 17 65535) ?_
       refine pu_ 16 63 (m_ 17 131071) ?_
       refine done_ (done_of HT_.out (by kernel_rfl)) ?_
       try go_wp2
       all_goals go_ret
       all_goals exact ⟨er_, hB_⟩
      subst c39
      rw [if_pos rfl] at H
      try dsimp only at H
      have H' := Aside0.mk H
      clear H
      try go_wp2
      replace HO_4 := Aside0.mk (Zv HO_4.out)
      replace HO_5 := Aside0.mk (Zv HO_5.out)
      replace HO_6 := Aside0.mk (Zv HO_6.out)
      replace HO_612001 := Aside0.mk (Zv HO_612001.out)
      replace BK611 := Aside0.mk (Zj BK611.out)
      replace HB := Aside0.mk (Zq HB.out)
      have p625 : 0 ≤ (x7_2 : Int) := of_decide_eq_true as_
      have q625 : x7_2 < (t612.length : Int) := of_decide_eq_true as_
      obtain ⟨ad625, A625_0, c625_0, e625, hx625_0, hl625_0, hi625_0⟩ := at_L2 (Zn HO_4.out).2.2 x7_2 p625 q625
      cases e625
      obtain ⟨ce625, hce625, hMe625, hcc625⟩ := Kd.N_get HO_4.out [] x7_2 p625 (by first | exact q625 | exact of_decide_eq_true as_ | (have e_ := (Zn HO_4.out).1; omega))
      obtain ⟨ua625_0, uc625_0, rfl, ul625_0, ge625_0⟩ := Kd.FK_slice_open hMe625
      have hv625_0 := hcc625 0 _ rfl
      rw [Nat.add_zero, show ((Kd.slice 3 (Kd.int .i64))).sz = 1 from rfl, Nat.mul_one] at hv625_0
      replace hv625_0 := Option.some.inj (hv625_0.symm.trans hx625_0)
      injection hv625_0 with hva_ hvn_ hvc_
      rw [hva_] at ge625_0
      rw [hvc_] at ul625_0
      have HL625_0 := Aside0.mk (show Kd.V (Kd.int .i64) 3 _ w.heap.size _ _ (rd_L2 t612 x7_2) from Kd.V_mk ul625_0 ge625_0)
      clear hva_ hvn_ hvc_ ge625_0 ul625_0
      clear hcc625 hce625
      have HR625_0 := Aside0.mk hi625_0
      have HC625_0 := Aside0.mk hl625_0
      clear hi625_0 hl625_0
      replace p625 := eq_true p625
      replace q625 := eq_true q625
      have p630 : 0 ≤ (x7_2 : Int) := of_decide_eq_true as_
      have q630 : x7_2 < (t612.length : Int) := of_decide_eq_true as_
      obtain ⟨ad630, A630_0, c630_0, e630, hx630_0, hl630_0, hi630_0⟩ := at_L2 (Zn HO_4.out).2.2 x7_2 p630 q630
      obtain rfl : ad625 = ad630 := (by injection e630)
      obtain ⟨ce630, hce630, hMe630, hcc630⟩ := Kd.N_get HO_4.out [] x7_2 p630 (by first | exact q630 | exact of_decide_eq_true as_ | (have e_ := (Zn HO_4.out).1; omega))
      obtain ⟨ua630_0, uc630_0, rfl, ul630_0, ge630_0⟩ := Kd.FK_slice_open hMe630
      have hv630_0 := hcc630 0 _ rfl
      rw [Nat.add_zero, show ((Kd.slice 3 (Kd.int .i64))).sz = 1 from rfl, Nat.mul_one] at hv630_0
      replace hv630_0 := Option.some.inj (hv630_0.symm.trans hx630_0)
      injection hv630_0 with hva_ hvn_ hvc_
      rw [hva_] at ge630_0
      rw [hvc_] at ul630_0
      have HL630_0 := Aside0.mk (show Kd.V (Kd.int .i64) 3 _ w.heap.size _ _ (rd_L2 t612 x7_2) from Kd.V_mk ul630_0 ge630_0)
      clear hva_ hvn_ hvc_ ge630_0 ul630_0
      clear hcc630 hce630
      have HR630_0 := Aside0.mk hi630_0
      have HC630_0 := Aside0.mk hl630_0
      obtain ⟨rfl, rfl⟩ : A625_0 = A630_0 ∧ c625_0 = c630_0 := by have h_ := hx625_0.symm.trans hx630_0; injection h_ with h_; injection h_ with h1_ h2_ h3_; exact ⟨h1_, h3_⟩
      clear hi630_0 hl630_0
      replace p630 := eq_true p630
      replace q630 := eq_true q630
      refine start_ (n := 17) (S := fun w' => w'.cell? ⟨gb611, 0, none⟩ = some (.int .i64 t607) ∧ w'.cell? ⟨gb611, 1, none⟩ = some (.slice Ao14 t608.length co14) ∧ w'.cell? (ad625.add (x7_2).toNat) = some (.slice A625_0 (rd_L2 t612 x7_2).length c625_0) ∧ w'.cell? (ad625.add (x7_2).toNat) = some (.slice A625_0 (rd_L2 t612 x7_2).length c625_0)) (ds := []) (m_ 17 0) (by kernel_rfl) rfl rfl ⟨(Za BK611.out 0).trans rfl, (Za BK611.out 1).trans rfl, hx625_0, hx630_0⟩ (fun hHeld => ?_); refine with_tabW laws_FnPositions.tab14 laws_FnPositions.bits14 (fun HT_ HW_ => ?_)
      generalize wr.drew = w40 at HO_4 HO_5 HO_6 HO_612001 BK611 HB HL625_0 HL630_0 HR625_0 HR630_0 hx625_0 hx630_0 hHeld ⊢
      refine pu_ 1 48 (m_ 17 2) ?_
      refine pu_ 2 49 (m_ 17 6) ?_
      refine pu_ 3 50 (m_ 17 14) ?_
      refine tk4_ 0 47 (m_ 17 15) hHeld ?_
      refine tk4_ 4 51 (m_ 17 31) hHeld ?_
      refine on_ 5 52 (m_ 17 63) (fun K hK => ?_)
      refine goes_ Try.func25 (by kernel_rfl) rfl #[.agg #[.int .i64 t607, .slice Ao14 t608.length co14], .slice A625_0 (rd_L2 t612 x7_2).length c625_0] (by rfl) rfl rfl ar_ ?_
      with_reducible refine (impl_IsComplete.calls k2 t607 _ _ t608 _ _ (rd_L2 t612 x7_2) true _ ?side1 ?side2 ?side3 ?side4 A35.out).mono ?_
      (case side1 => exact sA_ (Zn HO_612001.out).2.2)
      (case side2 => exact (Zn HO_612001.out).2.1)
      (case side3 => exact sA_ (cf_ HR625_0.out))
      (case side4 => exact HC625_0.out)
      rintro e w41 ⟨rfl, hb⟩
      have HS2_ := (hb.cell (World.block_lt_of_cell? _ _ (hHeld.2.2.1))).trans (hHeld.2.2.1)
      have HS3_ := (hb.cell (World.block_lt_of_cell? _ _ (hHeld.2.2.2))).trans (hHeld.2.2.2)
      refine ⟨_, rfl, ?_⟩
      have n0_ := Aside0.mk (ZH (rN_ HO_4.out) hb)
      have n1_ := Aside0.mk (ZH (rN_ HO_5.out) hb)
      have n2_ := Aside0.mk (ZH (rN_ HO_6.out) hb)
      have n3_ := Aside0.mk (ZH (rN_ HO_612001.out) hb)
      have n4_ := Aside0.mk (Kd.V_below (by (with_reducible repeat (first | apply ZQ | apply ZO | apply ZS)); exact HL625_0.out) hb)
      have n5_ := Aside0.mk (Zd (bq_ BK611.out) hb)
      have n6_ := Aside0.mk (Kd.C_below (cf_ HR625_0.out) hb)
      have n7_ := Aside0.mk (Zc hB_ hb)
      clear HO_4
      clear HO_5
      clear HO_6
      clear HO_612001
      clear HL625_0
      clear BK611
      clear HR625_0
      clear HB
      have HO_4 := n0_
      have HO_5 := n1_
      have HO_6 := n2_
      have HO_612001 := n3_
      have HL625_0 := n4_
      have BK611 := n5_
      have HR625_0 := n6_
      have HB := n7_
      clear n0_ n1_ n2_ n3_ n4_ n5_ n6_ n7_
      (try clear hb)
      (try clear hb2)
      (try clear hk)
      (try clear hi)
      refine hK.out _ _ ⟨(Za BK611.out 0).trans rfl, (Za BK611.out 1).trans rfl, HS2_, HS3_⟩ (fun hHeld => ?_)
      clear hK K
      refine no_ 52 ?_
      refine pu_ 6 53 (m_ 17 127) ?_
      refine pu_ 7 54 (m_ 17 255) ?_
      refine pu_ 10 57 (m_ 17 1279) ?_
      refine pu_ 11 58 (m_ 17 3327) ?_
      refine pu_ 12 59 (m_ 17 7423) ?_
      refine tk4_ 8 55 (m_ 17 7679) hHeld ?_
      refine tk4_ 13 60 (m_ 17 15871) hHeld ?_
      refine on_ 9 56 (m_ 17 16383) (fun K hK => ?_)
      refine goes_ Try.func27 (by kernel_rfl) rfl #[.agg #[.int .i64 t607, .slice Ao14 t608.length co14]] (by rfl) rfl rfl ar_ ?_
      with_reducible refine (impl_Grounded.calls k2 t607 _ _ t608 t627 _ ?side1 ?side2 A37.out).mono ?_
      (case side1 => exact sA_ (Zn HO_612001.out).2.2)
      (case side2 => exact (Zn HO_612001.out).2.1)
      rintro e w42 ⟨v628, rfl, ho0, hb⟩
      have HS2_ := (hb.cell (World.block_lt_of_cell? _ _ (hHeld.2.2.1))).trans (hHeld.2.2.1)
      have HS3_ := (hb.cell (World.block_lt_of_cell? _ _ (hHeld.2.2.2))).trans (hHeld.2.2.2)
      refine ⟨_, rfl, ?_⟩
      have n0_ := Aside0.mk (ZH (rN_ HO_4.out) hb)
      have n1_ := Aside0.mk (ZH (rN_ HO_5.out) hb)
      have n2_ := Aside0.mk (ZH (rN_ HO_6.out) hb)
      have n3_ := Aside0.mk (ZH (rN_ HO_612001.out) hb)
      have n4_ := Aside0.mk (Kd.V_below (by (with_reducible repeat (first | apply ZQ | apply ZO | apply ZS)); exact HL625_0.out) hb)
      have n5_ := Aside0.mk (Kd.V_lower (ZR (ok' := fun k_ => some k_ ≠ (.slice (some ad625) t612.length co16 : Value).ownBlock ∧ some k_ ≠ (v619 : Value).ownBlock ∧ some k_ ≠ (v622 : Value).ownBlock ∧ some k_ ≠ (.slice Ao14 t608.length co14 : Value).ownBlock ∧ k_ ≠ gb611) ho0 (fun k_ hk_ => ⟨(ZM (Kd.N_lt (rN_ HO_4.out)) k_ hk_), (ZM (Kd.N_lt (rN_ HO_5.out)) k_ hk_), (ZM (Kd.N_lt (rN_ HO_6.out)) k_ hk_), (ZM (Kd.N_lt (rN_ HO_612001.out)) k_ hk_), (Kd.freshB (bq_ BK611.out) k_ hk_)⟩)) (Ze hB_))
      have n6_ := Aside0.mk (Zd (bq_ BK611.out) hb)
      have n7_ := Aside0.mk (Kd.C_below (cf_ HR625_0.out) hb)
      have n8_ := Aside0.mk (Zc hB_ hb)
      clear HO_4
      clear HO_5
      clear HO_6
      clear HO_612001
      clear HL625_0
      clear BK611
      clear HR625_0
      clear HB
      have HO_4 := n0_
      have HO_5 := n1_
      have HO_6 := n2_
      have HO_612001 := n3_
      have HL625_0 := n4_
      have HO629 := n5_
      have BK611 := n6_
      have HR625_0 := n7_
      have HB := n8_
      clear n0_ n1_ n2_ n3_ n4_ n5_ n6_ n7_ n8_
      (try clear hb)
      (try clear hb2)
      (try clear hk)
      (try clear hi)
      (try clear ho0)
      obtain ⟨Ao43, co43, eo43⟩ := Kd.V_slice HO629.out
      (first | subst eo43 | (injection eo43 with f1_ f2_ f3_; have f4_ := f1_.symm; have f5_ := f3_.symm; clear f1_ f2_ f3_; subst f4_; subst f5_))
      refine hK.out _ _ ⟨(Za BK611.out 0).trans rfl, (Za BK611.out 1).trans rfl, HS2_, HS3_⟩ (fun hHeld => ?_)
      clear hK K
      refine no_ 56 ?_
      refine on_ 14 61 (m_ 17 32767) (fun K hK => ?_)
      refine goes_ Try.func26 (by kernel_rfl) rfl #[.slice Ao43 t627.length co43, .slice A625_0 (rd_L2 t612 x7_2).length c625_0] (by rfl) rfl rfl ar_ ?_
      with_reducible refine (laws_within.calls k2 _ _ t627 _ _ (rd_L2 t612 x7_2) true _ ?side1 ?side2 ?side3 ?side4 A38.out).mono ?_
      (case side1 => exact sA_ (Kd.V_reads' HO629.out).2.2)
      (case side2 => exact (Kd.V_reads' HO629.out).2.1)
      (case side3 => exact sA_ (cf_ HR625_0.out))
      (case side4 => exact HC630_0.out)
      rintro e w' ⟨rfl, ⟨nd, rfl⟩⟩
      refine ⟨_, rfl, ?_⟩
      refine hK.out _ _ ⟨(Za BK611.out 0).trans rfl, (Za BK611.out 1).trans rfl, hHeld.2.2.1, hHeld.2.2.2⟩ (fun hHeld => ?_)
      clear hK K
      refine no_ 61 ?_
      refine pu_ 15 62 (m_ 17 65535) ?_
      refine pu_ 16 63 (m_ 17 131071) ?_
      refine done_ (done_of HT_.out (by kernel_rfl)) ?_
      try go_wp2
      go_roundg k2
      case measure => have := HJ9.out; have := HK2.out; omega
      case rel => exact ⟨(wrap64 (x7_2 + 1)), sm_, H', ⟨by have := HJ9.out; have := HK2.out; omega⟩, ⟨rN_ HO_4.out⟩, ⟨rN_ HO_5.out⟩, ⟨rN_ HO_6.out⟩, ⟨rN_ HO_612001.out⟩, ⟨bk_ BK611.out⟩, ⟨hB_⟩⟩
     rw [if_neg c33] at H
     have c33b0 : decide (x7_2 < (t612.length : Int)) = false := decide_eq_false c33
     clear c33
     have HC50 := Aside0.mk H
     clear H
     go_upto_region 16 with (fail)
     go_cut [74] (fun v74 wc => ∃ (kq : Nat) (x74_49 : Bool), v74 = .bool x74_49 ∧ Aside0 (laws_FnPositions.j2 kq t618 t621 x74_49 t607 t608 = some r) ∧ Aside0 (kq ≤ k2) ∧ Aside0 (Kd.N (Kd.slice 3 (Kd.int .i64)) 31 wc w.heap.size (fun k_ => some k_ ≠ (v622 : Value).ownBlock ∧ some k_ ≠ ((.slice Ao14 t608.length co14) : Value).ownBlock ∧ k_ ≠ gb611) v619 t618) ∧ Aside0 (Kd.N (Kd.slice 3 (Kd.int .i64)) 31 wc w.heap.size (fun k_ => some k_ ≠ (v619 : Value).ownBlock ∧ some k_ ≠ ((.slice Ao14 t608.length co14) : Value).ownBlock ∧ k_ ≠ gb611) v622 t621) ∧ Aside0 (Kd.N (Kd.slice 3 (Kd.int .i64)) 31 wc w.heap.size (fun k_ => some k_ ≠ (v619 : Value).ownBlock ∧ some k_ ≠ (v622 : Value).ownBlock ∧ k_ ≠ gb611) (.slice Ao14 t608.length co14) t608) ∧ Aside0 (wc.heap[gb611]? = some (.cells #[.int .i64 t607, (.slice Ao14 t608.length co14)] 27 (0, 0))) ∧ Aside0 (Below w.heap.size w wc))
     case first =>
      have H := HC50.out
      clear HC50
      by_cases c51 : (t612.length : Int) > 0
      rotate_left
      ·rw [if_neg c51] at H
       have c51b0 : decide (0 < (t612.length : Int)) = false := decide_eq_false c51
       have c51b1 : decide (0 < t612.length) = false := decide_eq_false (by omega)
       clear c51
       (first | rw [c51b0] | (simp only [i64_w, i32_w]; rw [c51b0]) | rw [c51b1] | skip)
       have H' := Aside0.mk H
       clear H
       try go_wp2
       replace HO_4 := Aside0.mk (Zv HO_4.out)
       replace HO_5 := Aside0.mk (Zv HO_5.out)
       replace HO_6 := Aside0.mk (Zv HO_6.out)
       replace HO_612001 := Aside0.mk (Zv HO_612001.out)
       replace BK611 := Aside0.mk (Zj BK611.out)
       replace HB := Aside0.mk (Zq HB.out)
       refine start_ (n := 11) (S := fun w' => True) (ds := []) (m_ 11 0) (by kernel_rfl) rfl rfl trivial (fun hHeld => ?_); refine with_tabW laws_FnPositions.tab16 laws_FnPositions.bits16 (fun HT_ HW_ => ?_)
       generalize wr.drew = w60 at HO_4 HO_5 HO_6 HO_612001 BK611 HB hHeld ⊢
       refine pu_ 0 64 (m_ 11 1) ?_
       refine pu_ 1 65 (m_ 11 3) ?_
       refine pu_ 2 66 (m_ 11 7) ?_
       refine pu_ 3 67 (m_ 11 15) ?_
       refine pn_ 4 68 (m_ 11 31) ?_
       refine pn_ 5 69 (m_ 11 63) ?_
       refine pn_ 6 70 (m_ 11 127) ?_
       refine pn_ 7 71 (m_ 11 255) ?_
       refine pn_ 8 72 (m_ 11 511) ?_
       refine pn_ 9 73 (m_ 11 1023) ?_
       refine pu_ 10 74 (m_ 11 2047) ?_
       refine done_ (done_of HT_.out (by kernel_rfl)) ?_
       try go_wp2
       go_meet
       case rel => exact ⟨_, (false), sm_, H', ⟨by have := HJ9.out; have := HK2.out; first | omega | exact Nat.le_refl _⟩, ⟨by (with_reducible repeat (first | apply ZG | apply ZF | apply Zv)); exact ZB HO_5.out (fun _ hk => ⟨hk.2.1, ⟨hk.2.2.1, hk.2.2.2⟩⟩)⟩, ⟨by (with_reducible repeat (first | apply ZG | apply ZF | apply Zv)); exact ZB HO_6.out (fun _ hk => ⟨hk.2.1, ⟨hk.2.2.1, hk.2.2.2⟩⟩)⟩, ⟨by (with_reducible repeat (first | apply ZG | apply ZF | apply Zv)); exact ZB HO_612001.out (fun _ hk => ⟨hk.2.1, ⟨hk.2.2.1, hk.2.2.2⟩⟩)⟩, ⟨bk_ BK611.out⟩, ⟨hB_⟩⟩
      rw [if_pos c51] at H
      have c51b0 : decide (0 < (t612.length : Int)) = true := decide_eq_true c51
      have c51b1 : decide (0 < t612.length) = true := decide_eq_true (by omega)
      clear c51
      (first | rw [c51b0] | (simp only [i64_w, i32_w]; rw [c51b0]) | rw [c51b1] | skip)
      obtain ⟨t632, A52, H⟩ := bd_ H
      try dsimp only at H
      obtain ⟨t635, A53, H⟩ := bd_ H
      try dsimp only at H
      obtain ⟨t638, A54, H⟩ := bd_ H
      try dsimp only at H
      have H' := Aside0.mk H
      clear H
      try go_wp2
      replace HO_4 := Aside0.mk (Zv HO_4.out)
      replace HO_5 := Aside0.mk (Zv HO_5.out)
      replace HO_6 := Aside0.mk (Zv HO_6.out)
      replace HO_612001 := Aside0.mk (Zv HO_612001.out)
      replace BK611 := Aside0.mk (Zj BK611.out)
      replace HB := Aside0.mk (Zq HB.out)
      refine start_ (n := 11) (S := fun w' => w'.cell? ⟨gb611, 0, none⟩ = some (.int .i64 t607) ∧ w'.cell? ⟨gb611, 1, none⟩ = some (.slice Ao14 t608.length co14)) (ds := []) (m_ 11 0) (by kernel_rfl) rfl rfl ⟨(Za BK611.out 0).trans rfl, (Za BK611.out 1).trans rfl⟩ (fun hHeld => ?_); refine with_tabW laws_FnPositions.tab16 laws_FnPositions.bits16 (fun HT_ HW_ => ?_)
      generalize wr.drew = w55 at HO_4 HO_5 HO_6 HO_612001 BK611 HB hHeld ⊢
      refine pu_ 0 64 (m_ 11 1) ?_
      refine pu_ 1 65 (m_ 11 3) ?_
      refine pu_ 2 66 (m_ 11 7) ?_
      refine pu_ 3 67 (m_ 11 15) ?_
      refine pu_ 4 68 (m_ 11 31) ?_
      refine tk2_ 6 70 (m_ 11 95) hHeld ?_
      refine on_ 5 69 (m_ 11 127) (fun K hK => ?_)
      refine goes_ Try.func29 (by kernel_rfl) rfl #[.slice Ao16 t612.length co16] (by rfl) rfl rfl ar_ ?_
      with_reducible refine (impl_InAll.calls k2 _ _ t612 t632 _ ?side1 ?side2 A52.out).mono ?_
      (case side1 => exact sA_ (Zn HO_4.out).2.2)
      (case side2 => exact (Zn HO_4.out).2.1)
      rintro e w56 ⟨v633, rfl, ho0, hb⟩
      refine ⟨_, rfl, ?_⟩
      replace HO_4 := Aside0.mk (Kd.N_elder' (rN_ HO_4.out) (Kd.R_base ho0) hb)
      replace HO_5 := Aside0.mk (Kd.N_elder' (rN_ HO_5.out) (Kd.R_base ho0) hb)
      replace HO_6 := Aside0.mk (Kd.N_elder' (rN_ HO_6.out) (Kd.R_base ho0) hb)
      replace HO_612001 := Aside0.mk (Kd.N_elder' (rN_ HO_612001.out) (Kd.R_base ho0) hb)
      have HO634 := Aside0.mk (Kd.R_lower ho0 (Ze hB_))
      replace BK611 := Aside0.mk (Zd (bq_ BK611.out) hb)
      replace HB := Aside0.mk (Zc hB_ hb)
      (try clear hb)
      (try clear hb2)
      (try clear hk)
      (try clear hi)
      (try clear ho0)
      refine hK.out _ _ ⟨(Za BK611.out 0).trans rfl, (Za BK611.out 1).trans rfl⟩ (fun hHeld => ?_)
      clear hK K
      refine no_ 69 ?_
      refine on_ 7 71 (m_ 11 255) (fun K hK => ?_)
      refine goes_ Try.func27 (by kernel_rfl) rfl #[.agg #[.int .i64 t607, .slice Ao14 t608.length co14]] (by rfl) rfl rfl ar_ ?_
      with_reducible refine (impl_Grounded.calls k2 t607 _ _ t608 t635 _ ?side1 ?side2 A53.out).mono ?_
      (case side1 => exact sA_ (Zn HO_612001.out).2.2)
      (case side2 => exact (Zn HO_612001.out).2.1)
      rintro e w57 ⟨v636, rfl, ho0, hb⟩
      refine ⟨_, rfl, ?_⟩
      have HO637 := Aside0.mk (Kd.V_lower (ZR (ok' := fun k_ => some k_ ≠ (.slice Ao16 t612.length co16 : Value).ownBlock ∧ some k_ ≠ (v619 : Value).ownBlock ∧ some k_ ≠ (v622 : Value).ownBlock ∧ some k_ ≠ (.slice Ao14 t608.length co14 : Value).ownBlock ∧ some k_ ≠ (v633 : Value).ownBlock ∧ k_ ≠ gb611) ho0 (fun k_ hk_ => ⟨(ZM (Kd.N_lt (rN_ HO_4.out)) k_ hk_), (ZM (Kd.N_lt (rN_ HO_5.out)) k_ hk_), (ZM (Kd.N_lt (rN_ HO_6.out)) k_ hk_), (ZM (Kd.N_lt (rN_ HO_612001.out)) k_ hk_), (ZM (Kd.R_lt (rR_ HO634.out)) k_ hk_), (Kd.freshB (bq_ BK611.out) k_ hk_)⟩)) (Ze hB_))
      replace HO_4 := Aside0.mk (ZH (rN_ HO_4.out) hb)
      replace HO_5 := Aside0.mk (ZH (rN_ HO_5.out) hb)
      replace HO_6 := Aside0.mk (ZH (rN_ HO_6.out) hb)
      replace HO_612001 := Aside0.mk (ZH (rN_ HO_612001.out) hb)
      replace HO634 := Aside0.mk (Kd.R_below (rR_ HO634.out) hb)
      replace BK611 := Aside0.mk (Zd (bq_ BK611.out) hb)
      replace HB := Aside0.mk (Zc hB_ hb)
      (try clear hb)
      (try clear hb2)
      (try clear hk)
      (try clear hi)
      (try clear ho0)
      obtain ⟨Ao58, co58, eo58⟩ := Kd.R_slice HO634.out
      (first | subst eo58 | (injection eo58 with f1_ f2_ f3_; have f4_ := f1_.symm; have f5_ := f3_.symm; clear f1_ f2_ f3_; subst f4_; subst f5_))
      obtain ⟨Ao59, co59, eo59⟩ := Kd.V_slice HO637.out
      (first | subst eo59 | (injection eo59 with f1_ f2_ f3_; have f4_ := f1_.symm; have f5_ := f3_.symm; clear f1_ f2_ f3_; subst f4_; subst f5_))
      refine hK.out _ _ ⟨(Za BK611.out 0).trans rfl, (Za BK611.out 1).trans rfl⟩ (fun hHeld => ?_)
      clear hK K
      refine no_ 71 ?_
      refine on_ 8 72 (m_ 11 511) (fun K hK => ?_)
      refine goes_ Try.func28 (by kernel_rfl) rfl #[.slice Ao58 t632.length co58, .slice Ao59 t635.length co59] (by rfl) rfl rfl ar_ ?_
      with_reducible refine (laws_sameInts.calls k2 _ _ t632 _ _ t635 t638 _ ?side1 ?side2 ?side3 ?side4 A54.out).mono ?_
      (case side1 => exact sA_ (ZE HO634.out).2.2)
      (case side2 => exact (ZE HO634.out).2.1)
      (case side3 => exact sA_ (Kd.V_reads' HO637.out).2.2)
      (case side4 => exact (Kd.V_reads' HO637.out).2.1)
      rintro e w' ⟨rfl, ⟨nd, rfl⟩⟩
      refine ⟨_, rfl, ?_⟩
      refine hK.out _ _ ⟨(Za BK611.out 0).trans rfl, (Za BK611.out 1).trans rfl⟩ (fun hHeld => ?_)
      clear hK K
      refine no_ 72 ?_
      refine pu_ 9 73 (m_ 11 1023) ?_
      refine pu_ 10 74 (m_ 11 2047) ?_
      refine done_ (done_of HT_.out (by kernel_rfl)) ?_
      try go_wp2
      go_meet
      case rel => exact ⟨_, (!t638), sm_, H', ⟨by have := HJ9.out; have := HK2.out; first | omega | exact Nat.le_refl _⟩, ⟨by (with_reducible repeat (first | apply ZG | apply ZF | apply Zv)); exact ZB HO_5.out (fun _ hk => ⟨hk.1.2.1, ⟨hk.1.2.2.1, hk.1.2.2.2⟩⟩)⟩, ⟨by (with_reducible repeat (first | apply ZG | apply ZF | apply Zv)); exact ZB HO_6.out (fun _ hk => ⟨hk.1.2.1, ⟨hk.1.2.2.1, hk.1.2.2.2⟩⟩)⟩, ⟨by (with_reducible repeat (first | apply ZG | apply ZF | apply Zv)); exact ZB HO_612001.out (fun _ hk => ⟨hk.1.2.1, ⟨hk.1.2.2.1, hk.1.2.2.2⟩⟩)⟩, ⟨bk_ BK611.out⟩, ⟨hB_⟩⟩
     case rest =>
      clear HC50
      try clear c2
      try clear p2
      try clear c3
      try clear c5
      try clear c6
      try clear p6
      try clear q6
      try clear hx6
      try clear c25
      try clear c26
      try clear c27
      try clear c28
      try clear c29
      try clear c33
      try clear c33b0
      try clear c34
      try clear c36
      try clear c51
      try clear c51b0
      try clear c51b1
      try clear hx625_0
      try clear p625
      try clear q625
      obtain ⟨kq, x74_49, rfl, HA, HJ49, HO_5, HO_6, HO_612001, BK611, HB⟩ := hcut
      cases kq with
      | zero => exact absurd HA.out (by simp [laws_FnPositions.j2])
      | succ kj49 =>
       have H := HA.out
       clear HA
       simp only [laws_FnPositions.j2] at H
       by_cases c61 : x74_49 = true
       ·subst c61
        rw [if_pos rfl] at H
        try dsimp only at H
        obtain rfl := Option.some.inj H
        go_wp2
        all_goals go_ret
        all_goals exact ⟨er_, hB_⟩
       replace c61 := Bool.eq_false_iff.mpr c61
       subst c61
       rw [if_neg (show ¬ (false = true) by decide)] at H
       try dsimp only at H
       have H' := Aside0.mk H
       clear H
       go_wp2
       go_loopg [8] kj49 (fun kq v8 w' => ∃ (x8_4 : Int), v8 = .int .i64 x8_4 ∧ Aside0 (laws_FnPositions.l1 kq t618 t621 x8_4 t607 t608 = some r) ∧ Aside0 (kq ≤ kj49) ∧ Aside0 (Kd.N (Kd.slice 3 (Kd.int .i64)) 31 w' w.heap.size (fun k_ => some k_ ≠ (v622 : Value).ownBlock ∧ some k_ ≠ ((.slice Ao14 t608.length co14) : Value).ownBlock ∧ k_ ≠ gb611) v619 t618) ∧ Aside0 (Kd.N (Kd.slice 3 (Kd.int .i64)) 31 w' w.heap.size (fun k_ => some k_ ≠ (v619 : Value).ownBlock ∧ some k_ ≠ ((.slice Ao14 t608.length co14) : Value).ownBlock ∧ k_ ≠ gb611) v622 t621) ∧ Aside0 (Kd.N (Kd.slice 3 (Kd.int .i64)) 31 w' w.heap.size (fun k_ => some k_ ≠ (v619 : Value).ownBlock ∧ some k_ ≠ (v622 : Value).ownBlock ∧ k_ ≠ gb611) (.slice Ao14 t608.length co14) t608) ∧ Aside0 (w'.heap[gb611]? = some (.cells #[.int .i64 t607, (.slice Ao14 t608.length co14)] 27 (0, 0))) ∧ Aside0 (Below w.heap.size w w'))
       case atStart => exact ⟨(0), sm_, H', ⟨Nat.le_refl _⟩, ⟨rN_ HO_5.out⟩, ⟨rN_ HO_6.out⟩, ⟨rN_ HO_612001.out⟩, ⟨bk_ BK611.out⟩, ⟨hB_⟩⟩
       case round =>
        clear H'
        try clear c2
        try clear p2
        try clear c3
        try clear c5
        try clear c6
        try clear p6
        try clear q6
        try clear hx6
        try clear c25
        try clear c26
        try clear c27
        try clear c28
        try clear c29
        try clear c33
        try clear c33b0
        try clear c34
        try clear c36
        try clear c51
        try clear c51b0
        try clear c51b1
        try clear c61
        try clear hx625_0
        try clear p2
        try clear p6
        try clear p625
        try clear q6
        try clear q625
        obtain ⟨x8_4, rfl, HA, HK4, HO_5, HO_6, HO_612001, BK611, HB⟩ := hrel
        cases gk with
        | zero => exact absurd HA.out (by simp [laws_FnPositions.l1])
        | succ k4 =>
         have H := HA.out
         clear HA
         simp only [laws_FnPositions.l1] at H
         by_cases c62 : x8_4 < (t621.length : Int)
         ·rw [if_pos c62] at H
          have c62b0 : decide (x8_4 < (t621.length : Int)) = true := decide_eq_true c62
          clear c62
          have H' := Aside0.mk H
          clear H
          obtain ⟨Ao63, co63, eo63⟩ := Kd.N_slice HO_6.out
          subst eo63
          go_wp2
          go_loopg [9, 10] k4 (fun kq v9 v10 w' => ∃ (x9_5 : Bool) (x10_5 : Int), v9 = .bool x9_5 ∧ v10 = .int .i64 x10_5 ∧ Aside0 (laws_FnPositions.l2 kq t618 t621 x8_4 x9_5 x10_5 t607 t608 = some r) ∧ Aside0 (kq ≤ k4) ∧ Aside0 (Kd.N (Kd.slice 3 (Kd.int .i64)) 31 w' w.heap.size (fun k_ => some k_ ≠ ((.slice Ao63 t621.length co63) : Value).ownBlock ∧ some k_ ≠ ((.slice Ao14 t608.length co14) : Value).ownBlock ∧ k_ ≠ gb611) v619 t618) ∧ Aside0 (Kd.N (Kd.slice 3 (Kd.int .i64)) 31 w' w.heap.size (fun k_ => some k_ ≠ (v619 : Value).ownBlock ∧ some k_ ≠ ((.slice Ao14 t608.length co14) : Value).ownBlock ∧ k_ ≠ gb611) (.slice Ao63 t621.length co63) t621) ∧ Aside0 (Kd.N (Kd.slice 3 (Kd.int .i64)) 31 w' w.heap.size (fun k_ => some k_ ≠ (v619 : Value).ownBlock ∧ some k_ ≠ ((.slice Ao63 t621.length co63) : Value).ownBlock ∧ k_ ≠ gb611) (.slice Ao14 t608.length co14) t608) ∧ Aside0 (w'.heap[gb611]? = some (.cells #[.int .i64 t607, (.slice Ao14 t608.length co14)] 27 (0, 0))) ∧ Aside0 (Below w.heap.size w w'))
          case atStart => exact ⟨(false), (0), sm_, sm_, H', ⟨Nat.le_refl _⟩, ⟨rN_ HO_5.out⟩, ⟨rN_ HO_6.out⟩, ⟨rN_ HO_612001.out⟩, ⟨bk_ BK611.out⟩, ⟨hB_⟩⟩
          case round =>
           clear H'
           try clear c2
           try clear p2
           try clear c3
           try clear c5
           try clear c6
           try clear p6
           try clear q6
           try clear hx6
           try clear c25
           try clear c26
           try clear c27
           try clear c28
           try clear c29
           try clear c33
           try clear c33b0
           try clear c34
           try clear c36
           try clear c51
           try clear c51b0
           try clear c51b1
           try clear c61
           try clear c62
           try clear c62b0
           try clear p62
           try clear q62
           try clear hx62
           try clear hx625_0
           try clear p2
           try clear p6
           try clear p625
           try clear q6
           try clear q625
           obtain ⟨x9_5, x10_5, rfl, rfl, HA, HK5, HO_5, HO_6, HO_612001, BK611, HB⟩ := hrel
           cases gk with
           | zero => exact absurd HA.out (by simp [laws_FnPositions.l2])
           | succ k5 =>
            have H := HA.out
            clear HA
            simp only [laws_FnPositions.l2] at H
            by_cases c64 : x10_5 < (t618.length : Int)
            rotate_left
            ·rw [if_neg c64] at H
             have c64b0 : decide (x10_5 < (t618.length : Int)) = false := decide_eq_false c64
             clear c64
             by_cases c74 : x9_5 = true
             rotate_left
             ·replace c74 := Bool.eq_false_iff.mpr c74
              subst c74
              rw [if_neg (show ¬ (false = true) by decide)] at H
              try dsimp only at H
              obtain rfl := Option.some.inj H
              obtain ⟨Ao76, co76, eo76⟩ := Kd.N_slice HO_5.out
              subst eo76
              go_wp2
              all_goals go_ret
              all_goals exact ⟨er_, hB_⟩
             subst c74
             rw [if_pos rfl] at H
             try dsimp only at H
             have H' := Aside0.mk H
             clear H
             obtain ⟨Ao75, co75, eo75⟩ := Kd.N_slice HO_5.out
             subst eo75
             go_wp2
             go_roundg k5
             case measure => have := HJ9.out; have := HK2.out; have := HJ49.out; have := HK4.out; have := HK5.out; omega
             case rel => exact ⟨(wrap64 (x8_4 + 1)), sm_, H', ⟨by have := HJ9.out; have := HK2.out; have := HJ49.out; have := HK4.out; have := HK5.out; omega⟩, ⟨rN_ HO_5.out⟩, ⟨rN_ HO_6.out⟩, ⟨rN_ HO_612001.out⟩, ⟨bk_ BK611.out⟩, ⟨hB_⟩⟩
            rw [if_pos c64] at H
            have c64b0 : decide (x10_5 < (t618.length : Int)) = true := decide_eq_true c64
            clear c64
            by_cases c65 : x9_5 = true
            ·subst c65
             rw [if_pos rfl] at H
             try dsimp only at H
             have H' := Aside0.mk H
             clear H
             obtain ⟨Ao66, co66, eo66⟩ := Kd.N_slice HO_5.out
             subst eo66
             try go_wp2
             replace HO_5 := Aside0.mk (Zv HO_5.out)
             replace HO_6 := Aside0.mk (Zv HO_6.out)
             replace HO_612001 := Aside0.mk (Zv HO_612001.out)
             replace BK611 := Aside0.mk (Zj BK611.out)
             replace HB := Aside0.mk (Zq HB.out)
             refine start_ (n := 13) (S := fun w' => True) (ds := []) (m_ 13 0) (by kernel_rfl) rfl rfl trivial (fun hHeld => ?_); refine with_tabW laws_FnPositions.tab25 laws_FnPositions.bits25 (fun HT_ HW_ => ?_)
             generalize wr.drew = w67 at HO_5 HO_6 HO_612001 BK611 HB hHeld ⊢
             refine pu_ 0 87 (m_ 13 1) ?_
             refine pu_ 1 88 (m_ 13 3) ?_
             refine pn_ 2 89 (m_ 13 7) ?_
             refine pn_ 3 90 (m_ 13 15) ?_
             refine pn_ 4 91 (m_ 13 31) ?_
             refine pn_ 5 92 (m_ 13 63) ?_
             refine pn_ 6 93 (m_ 13 127) ?_
             refine pn_ 7 94 (m_ 13 255) ?_
             refine pn_ 8 95 (m_ 13 511) ?_
             refine pn_ 9 96 (m_ 13 1023) ?_
             refine pn_ 10 97 (m_ 13 2047) ?_
             refine pu_ 11 98 (m_ 13 4095) ?_
             refine pu_ 12 9 (m_ 13 8191) ?_
             refine done_ (done_of HT_.out (by kernel_rfl)) ?_
             try go_wp2
             go_roundg k5
             case measure => have := HJ9.out; have := HK2.out; have := HJ49.out; have := HK4.out; have := HK5.out; omega
             case rel => exact ⟨(true), (wrap64 (x10_5 + 1)), sm_, sm_, H', ⟨by have := HJ9.out; have := HK2.out; have := HJ49.out; have := HK4.out; have := HK5.out; omega⟩, ⟨rN_ HO_5.out⟩, ⟨rN_ HO_6.out⟩, ⟨rN_ HO_612001.out⟩, ⟨bk_ BK611.out⟩, ⟨hB_⟩⟩
            replace c65 := Bool.eq_false_iff.mpr c65
            subst c65
            rw [if_neg (show ¬ (false = true) by decide)] at H
            try dsimp only at H
            by_cases c68 : 0 ≤ x8_4
            rotate_left
            ·rw [if_neg c68] at H
             exact absurd H (by simp)
            rw [if_pos c68] at H
            have c68b0 : decide (0 ≤ x8_4) = true := decide_eq_true c68
            clear c68
            by_cases c69 : x8_4 < (t621.length : Int)
            rotate_left
            ·rw [if_neg c69] at H
             exact absurd H (by simp)
            rw [if_pos c69] at H
            have c69b0 : decide (x8_4 < (t621.length : Int)) = true := decide_eq_true c69
            (try (have c69z := c69b0; rw [hl639_0] at c69z))
            (try (have c69z := c69b0; rw [hl640_0] at c69z))
            clear c69
            by_cases c70 : 0 ≤ x10_5
            rotate_left
            ·rw [if_neg c70] at H
             exact absurd H (by simp)
            rw [if_pos c70] at H
            have c70b0 : decide (0 ≤ x10_5) = true := decide_eq_true c70
            clear c70
            obtain ⟨t641, A71, H⟩ := bd_ H
            try dsimp only at H
            have H' := Aside0.mk H
            clear H
            obtain ⟨Ao72, co72, eo72⟩ := Kd.N_slice HO_5.out
            subst eo72
            try go_wp2
            replace HO_5 := Aside0.mk (Zv HO_5.out)
            replace HO_6 := Aside0.mk (Zv HO_6.out)
            replace HO_612001 := Aside0.mk (Zv HO_612001.out)
            replace BK611 := Aside0.mk (Zj BK611.out)
            replace HB := Aside0.mk (Zq HB.out)
            have p639 : 0 ≤ (x8_4 : Int) := of_decide_eq_true as_
            have q639 : x8_4 < (t621.length : Int) := of_decide_eq_true as_
            obtain ⟨ad639, A639_0, c639_0, e639, hx639_0, hl639_0, hi639_0⟩ := at_L2 (Zn HO_6.out).2.2 x8_4 p639 q639
            cases e639
            obtain ⟨ce639, hce639, hMe639, hcc639⟩ := Kd.N_get HO_6.out [] x8_4 p639 (by first | exact q639 | exact of_decide_eq_true as_ | (have e_ := (Zn HO_6.out).1; omega))
            obtain ⟨ua639_0, uc639_0, rfl, ul639_0, ge639_0⟩ := Kd.FK_slice_open hMe639
            have hv639_0 := hcc639 0 _ rfl
            rw [Nat.add_zero, show ((Kd.slice 3 (Kd.int .i64))).sz = 1 from rfl, Nat.mul_one] at hv639_0
            replace hv639_0 := Option.some.inj (hv639_0.symm.trans hx639_0)
            injection hv639_0 with hva_ hvn_ hvc_
            rw [hva_] at ge639_0
            rw [hvc_] at ul639_0
            have HL639_0 := Aside0.mk (show Kd.V (Kd.int .i64) 3 _ w.heap.size _ _ (rd_L2 t621 x8_4) from Kd.V_mk ul639_0 ge639_0)
            clear hva_ hvn_ hvc_ ge639_0 ul639_0
            clear hcc639 hce639
            have HR639_0 := Aside0.mk hi639_0
            have HC639_0 := Aside0.mk hl639_0
            clear hi639_0 hl639_0
            replace p639 := eq_true p639
            replace q639 := eq_true q639
            have p640 : 0 ≤ (x10_5 : Int) := of_decide_eq_true as_
            have q640 : x10_5 < (t618.length : Int) := of_decide_eq_true as_
            obtain ⟨ad640, A640_0, c640_0, e640, hx640_0, hl640_0, hi640_0⟩ := at_L2 (Zn HO_5.out).2.2 x10_5 p640 q640
            cases e640
            obtain ⟨ce640, hce640, hMe640, hcc640⟩ := Kd.N_get HO_5.out [] x10_5 p640 (by first | exact q640 | exact of_decide_eq_true as_ | (have e_ := (Zn HO_5.out).1; omega))
            obtain ⟨ua640_0, uc640_0, rfl, ul640_0, ge640_0⟩ := Kd.FK_slice_open hMe640
            have hv640_0 := hcc640 0 _ rfl
            rw [Nat.add_zero, show ((Kd.slice 3 (Kd.int .i64))).sz = 1 from rfl, Nat.mul_one] at hv640_0
            replace hv640_0 := Option.some.inj (hv640_0.symm.trans hx640_0)
            injection hv640_0 with hva_ hvn_ hvc_
            rw [hva_] at ge640_0
            rw [hvc_] at ul640_0
            have HL640_0 := Aside0.mk (show Kd.V (Kd.int .i64) 3 _ w.heap.size _ _ (rd_L2 t618 x10_5) from Kd.V_mk ul640_0 ge640_0)
            clear hva_ hvn_ hvc_ ge640_0 ul640_0
            clear hcc640 hce640
            have HR640_0 := Aside0.mk hi640_0
            have HC640_0 := Aside0.mk hl640_0
            clear hi640_0 hl640_0
            replace p640 := eq_true p640
            replace q640 := eq_true q640
            refine start_ (n := 13) (S := fun w' => w'.cell? (ad639.add (x8_4).toNat) = some (.slice A639_0 (rd_L2 t621 x8_4).length c639_0) ∧ w'.cell? (ad640.add (x10_5).toNat) = some (.slice A640_0 (rd_L2 t618 x10_5).length c640_0)) (ds := []) (m_ 13 0) (by kernel_rfl) rfl rfl ⟨hx639_0, hx640_0⟩ (fun hHeld => ?_); refine with_tabW laws_FnPositions.tab25 laws_FnPositions.bits25 (fun HT_ HW_ => ?_)
            generalize wr.drew = w73 at HO_5 HO_6 HO_612001 BK611 HB HL639_0 HL640_0 HR639_0 HR640_0 hx639_0 hx640_0 hHeld ⊢
            refine pu_ 0 87 (m_ 13 1) ?_
            refine pu_ 1 88 (m_ 13 3) ?_
            refine pu_ 2 89 (m_ 13 7) ?_
            refine pu_ 3 90 (m_ 13 15) ?_
            refine pu_ 4 91 (m_ 13 31) ?_
            refine pu_ 6 93 (m_ 13 95) ?_
            refine pu_ 7 94 (m_ 13 223) ?_
            refine pu_ 8 95 (m_ 13 479) ?_
            refine tk2_ 5 92 (m_ 13 511) hHeld ?_
            refine tk2_ 9 96 (m_ 13 1023) hHeld ?_
            refine on_ 10 97 (m_ 13 2047) (fun K hK => ?_)
            refine goes_ Try.func28 (by kernel_rfl) rfl #[.slice A639_0 (rd_L2 t621 x8_4).length c639_0, .slice A640_0 (rd_L2 t618 x10_5).length c640_0] (by rfl) rfl rfl ar_ ?_
            with_reducible refine (laws_sameInts.calls k5 _ _ (rd_L2 t621 x8_4) _ _ (rd_L2 t618 x10_5) t641 _ ?side1 ?side2 ?side3 ?side4 A71.out).mono ?_
            (case side1 => exact sA_ (cf_ HR639_0.out))
            (case side2 => exact HC639_0.out)
            (case side3 => exact sA_ (cf_ HR640_0.out))
            (case side4 => exact HC640_0.out)
            rintro e w' ⟨rfl, ⟨nd, rfl⟩⟩
            refine ⟨_, rfl, ?_⟩
            refine hK.out _ _ ⟨hHeld.1, hHeld.2⟩ (fun hHeld => ?_)
            clear hK K
            refine no_ 97 ?_
            refine pu_ 11 98 (m_ 13 4095) ?_
            refine pu_ 12 9 (m_ 13 8191) ?_
            refine done_ (done_of HT_.out (by kernel_rfl)) ?_
            try go_wp2
            go_roundg k5
            case measure => have := HJ9.out; have := HK2.out; have := HJ49.out; have := HK4.out; have := HK5.out; omega
            case rel => exact ⟨(t641), (wrap64 (x10_5 + 1)), sm_, sm_, H', ⟨by have := HJ9.out; have := HK2.out; have := HJ49.out; have := HK4.out; have := HK5.out; omega⟩, ⟨rN_ HO_5.out⟩, ⟨rN_ HO_6.out⟩, ⟨rN_ HO_612001.out⟩, ⟨bk_ BK611.out⟩, ⟨hB_⟩⟩
         rw [if_neg c62] at H
         have c62b0 : decide (x8_4 < (t621.length : Int)) = false := decide_eq_false c62
         clear c62
         have H' := Aside0.mk H
         clear H
         obtain ⟨Ao77, co77, eo77⟩ := Kd.N_slice HO_6.out
         subst eo77
         go_wp2
         go_loopg [11] k4 (fun kq v11 w' => ∃ (x11_5 : Int), v11 = .int .i64 x11_5 ∧ Aside0 (laws_FnPositions.l3 kq x11_5 t607 t608 = some r) ∧ Aside0 (kq ≤ k4) ∧ Aside0 (Kd.N (Kd.slice 3 (Kd.int .i64)) 31 w' w.heap.size (fun k_ => k_ ≠ gb611) (.slice Ao14 t608.length co14) t608) ∧ Aside0 (w'.heap[gb611]? = some (.cells #[.int .i64 t607, (.slice Ao14 t608.length co14)] 27 (0, 0))) ∧ Aside0 (Below w.heap.size w w'))
         case atStart => exact ⟨(0), sm_, H', ⟨Nat.le_refl _⟩, ⟨by (with_reducible repeat (first | apply ZG | apply ZF | apply Zv)); exact ZB HO_612001.out (fun _ hk => hk.2.2)⟩, ⟨bk_ BK611.out⟩, ⟨hB_⟩⟩
         case round =>
          clear H'
          try clear c2
          try clear p2
          try clear c3
          try clear c5
          try clear c6
          try clear p6
          try clear q6
          try clear hx6
          try clear c7
          try clear c25
          try clear c26
          try clear c27
          try clear c28
          try clear c29
          try clear c33
          try clear c33b0
          try clear c34
          try clear c36
          try clear c51
          try clear c51b0
          try clear c51b1
          try clear c61
          try clear c62
          try clear c62b0
          try clear p62
          try clear q62
          try clear hx62
          try clear c63
          try clear p63
          try clear q63
          try clear hx63
          try clear c64
          try clear c64b0
          try clear p64
          try clear q64
          try clear hx64
          try clear c65
          try clear c68
          try clear c68b0
          try clear c69
          try clear c69b0
          try clear c70
          try clear c70b0
          try clear c74
          try clear hx625_0
          try clear hx639_0
          try clear hx640_0
          try clear p2
          try clear p6
          try clear p62
          try clear p625
          try clear p639
          try clear p640
          try clear q6
          try clear q62
          try clear q625
          try clear q639
          try clear q640
          obtain ⟨x11_5, rfl, HA, HK5, HO_612001, BK611, HB⟩ := hrel
          cases gk with
          | zero => exact absurd HA.out (by simp [laws_FnPositions.l3])
          | succ k5 =>
           have H := HA.out
           clear HA
           simp only [laws_FnPositions.l3] at H
           have HC78 := Aside0.mk H
           clear H
           go_upto_region 29 with (fail)
           go_cut [108] (fun v108 wc => ∃ (kq : Nat) (x108_77 : Bool), v108 = .bool x108_77 ∧ Aside0 (laws_FnPositions.j6 kq x11_5 x108_77 t607 t608 = some r) ∧ Aside0 (kq ≤ k5) ∧ Aside0 (Kd.N (Kd.slice 3 (Kd.int .i64)) 31 wc w.heap.size (fun k_ => k_ ≠ gb611) (.slice Ao14 t608.length co14) t608) ∧ Aside0 (wc.heap[gb611]? = some (.cells #[.int .i64 t607, (.slice Ao14 t608.length co14)] 27 (0, 0))) ∧ Aside0 (Below w.heap.size w wc))
           case first =>
            have H := HC78.out
            clear HC78
            by_cases c79 : x11_5 < t607
            rotate_left
            ·rw [if_neg c79] at H
             have c79b0 : decide (x11_5 < t607) = false := decide_eq_false c79
             clear c79
             (first | rw [c79b0] | (simp only [i64_w, i32_w]; rw [c79b0]) | skip)
             have H' := Aside0.mk H
             clear H
             obtain ⟨hcz83_0, hcz83_1, hfz83_0, hfz83_1⟩ := c2_ BK611.out
             go_wp2
             go_meet
             case rel => exact ⟨_, (false), sm_, H', ⟨by have := HJ9.out; have := HK2.out; have := HJ49.out; have := HK4.out; have := HK5.out; first | omega | exact Nat.le_refl _⟩, ⟨rN_ HO_612001.out⟩, ⟨bk_ BK611.out⟩, ⟨hB_⟩⟩
            rw [if_pos c79] at H
            have c79b0 : decide (x11_5 < t607) = true := decide_eq_true c79
            clear c79
            (first | rw [c79b0] | (simp only [i64_w, i32_w]; rw [c79b0]) | skip)
            obtain ⟨t642, A80, H⟩ := bd_ H
            try dsimp only at H
            have H' := Aside0.mk H
            clear H
            obtain ⟨hcz81_0, hcz81_1, hfz81_0, hfz81_1⟩ := c2_ BK611.out
            go_wp2_with (first | (go_at_call 24; (with_reducible refine (impl_IsGraph.calls k5 t607 _ _ t608 t642 _ ?side1 ?side2 A80.out).mono ?_); (case side1 => exact sA_ (Zn HO_612001.out).2.2); (case side2 => exact (Zn HO_612001.out).2.1); rintro e w82 ⟨rfl, hb⟩; replace HO_612001 := Aside0.mk (ZH (rN_ HO_612001.out) hb); replace BK611 := Aside0.mk (Zd (bq_ BK611.out) hb); replace HB := Aside0.mk (Zc hB_ hb); (try clear hb)))
            go_meet
            case rel => exact ⟨_, (t642), sm_, H', ⟨by have := HJ9.out; have := HK2.out; have := HJ49.out; have := HK4.out; have := HK5.out; first | omega | exact Nat.le_refl _⟩, ⟨rN_ HO_612001.out⟩, ⟨bk_ BK611.out⟩, ⟨hB_⟩⟩
           case rest =>
            clear HC78
            try clear c2
            try clear p2
            try clear c3
            try clear c5
            try clear c6
            try clear p6
            try clear q6
            try clear hx6
            try clear c7
            try clear c25
            try clear c26
            try clear c27
            try clear c28
            try clear c29
            try clear c33
            try clear c33b0
            try clear c34
            try clear c36
            try clear c51
            try clear c51b0
            try clear c51b1
            try clear c61
            try clear c62
            try clear c62b0
            try clear p62
            try clear q62
            try clear hx62
            try clear c63
            try clear p63
            try clear q63
            try clear hx63
            try clear c64
            try clear c64b0
            try clear p64
            try clear q64
            try clear hx64
            try clear c65
            try clear c68
            try clear c68b0
            try clear c69
            try clear c69b0
            try clear c70
            try clear c70b0
            try clear c74
            try clear c79
            try clear c79b0
            try clear hcz81_0
            try clear hcz81_1
            try clear hcz83_0
            try clear hcz83_1
            try clear hfz81_0
            try clear hfz81_1
            try clear hfz83_0
            try clear hfz83_1
            try clear hx625_0
            try clear hx639_0
            try clear hx640_0
            try clear p2
            try clear p6
            try clear p62
            try clear p625
            try clear p63
            try clear p639
            try clear p64
            try clear p640
            try clear q6
            try clear q62
            try clear q625
            try clear q63
            try clear q639
            try clear q64
            try clear q640
            obtain ⟨kq, x108_77, rfl, HA, HJ77, HO_612001, BK611, HB⟩ := hcut
            cases kq with
            | zero => exact absurd HA.out (by simp [laws_FnPositions.j6])
            | succ kj77 =>
             have H := HA.out
             clear HA
             simp only [laws_FnPositions.j6] at H
             by_cases c84 : x108_77 = true
             rotate_left
             ·replace c84 := Bool.eq_false_iff.mpr c84
              subst c84
              rw [if_neg (show ¬ (false = true) by decide)] at H
              try dsimp only at H
              obtain rfl := Option.some.inj H
              go_wp2
              all_goals go_ret
              all_goals exact ⟨er_, hB_⟩
             subst c84
             rw [if_pos rfl] at H
             try dsimp only at H
             obtain ⟨t643, A85, H⟩ := bd_ H
             try dsimp only at H
             obtain ⟨t646, A86, H⟩ := bd_ H
             try dsimp only at H
             by_cases c87 : t646 = true
             rotate_left
             ·replace c87 := Bool.eq_false_iff.mpr c87
              subst c87
              rw [if_neg (show ¬ (false = true) by decide)] at H
              try dsimp only at H
              obtain ⟨t650, A124, H⟩ := bd_ H
              try dsimp only at H
              by_cases c125 : t650 = true
              rotate_left
              ·replace c125 := Bool.eq_false_iff.mpr c125
               subst c125
               rw [if_neg (show ¬ (false = true) by decide)] at H
               try dsimp only at H
               have H' := Aside0.mk H
               clear H
               obtain ⟨hcz142_0, hcz142_1, hfz142_0, hfz142_1⟩ := c2_ BK611.out
               go_wp2_with (first | ((with_reducible refine Zf (f := 27) rfl ?_); refine ZC (some 112) rfl rfl Try.func27 (by kernel_rfl) rfl #[.agg #[.int .i64 t607, .slice Ao14 t608.length co14]] rfl ar_ ?_; (with_reducible refine (impl_Grounded.calls kj77 t607 _ _ t608 t643 _ ?side1 ?side2 A85.out).mono ?_); (case side1 => exact sA_ (Zn HO_612001.out).2.2); (case side2 => exact (Zn HO_612001.out).2.1); rintro e w143 ⟨v644, rfl, ho0, hb⟩; refine ⟨_, rfl, ?_⟩; have HO645 := Aside0.mk (Kd.V_lower (ZR (ok' := fun k_ => some k_ ≠ (.slice Ao14 t608.length co14 : Value).ownBlock ∧ k_ ≠ gb611) ho0 (fun k_ hk_ => ⟨(ZM (Kd.N_lt (rN_ HO_612001.out)) k_ hk_), (Kd.freshB (bq_ BK611.out) k_ hk_)⟩)) (Ze hB_)); replace HO_612001 := Aside0.mk (ZH (rN_ HO_612001.out) hb); replace BK611 := Aside0.mk (Zd (bq_ BK611.out) hb); replace HB := Aside0.mk (Zc hB_ hb); (try clear hb); (try clear ho0); obtain ⟨Ao144, co144, eo144⟩ := Kd.V_slice HO645.out; subst eo144) | ((with_reducible refine Zf (f := 30) rfl ?_); refine ZC (some 114) rfl rfl Try.func30 (by kernel_rfl) rfl #[.slice Ao144 t643.length co144, .int .i64 x11_5] rfl ar_ ?_; (with_reducible refine (laws_contains.calls kj77 _ _ t643 x11_5 false _ ?side1 ?side2 A86.out).mono ?_); (case side1 => exact sA_ (Kd.V_reads' HO645.out).2.2); (case side2 => exact (Kd.V_reads' HO645.out).2.1); rintro e w' ⟨rfl, ⟨nd, rfl⟩⟩; refine ⟨_, rfl, ?_⟩; obtain ⟨hcz145_0, hcz145_1, hfz145_0, hfz145_1⟩ := c2_ BK611.out) | (go_at_call 31; (with_reducible refine (impl_IsCertain.calls kj77 t607 _ _ t608 x11_5 false _ ?side1 ?side2 A124.out).mono ?_); (case side1 => exact sA_ (Zn HO_612001.out).2.2); (case side2 => exact (Zn HO_612001.out).2.1); rintro e w146 ⟨rfl, hb⟩; replace HO_612001 := Aside0.mk (ZH (rN_ HO_612001.out) hb); replace HO645 := Aside0.mk (Kd.V_below (rV_ HO645.out) hb); replace BK611 := Aside0.mk (Zd (bq_ BK611.out) hb); replace HB := Aside0.mk (Zc hB_ hb); (try clear hb)))
               go_roundg kj77
               case measure => have := HJ9.out; have := HK2.out; have := HJ49.out; have := HK4.out; have := HK5.out; have := HJ77.out; omega
               case rel => exact ⟨(wrap64 (x11_5 + 1)), sm_, H', ⟨by have := HJ9.out; have := HK2.out; have := HJ49.out; have := HK4.out; have := HK5.out; have := HJ77.out; omega⟩, ⟨rN_ HO_612001.out⟩, ⟨bk_ BK611.out⟩, ⟨hB_⟩⟩
              subst c125
              rw [if_pos rfl] at H
              try dsimp only at H
              obtain ⟨t651, A126, H⟩ := bd_ H
              try dsimp only at H
              by_cases c127 : t651 = true
              rotate_left
              ·replace c127 := Bool.eq_false_iff.mpr c127
               subst c127
               rw [if_neg (show ¬ (false = true) by decide)] at H
               try dsimp only at H
               obtain rfl := Option.some.inj H
               obtain ⟨hcz135_0, hcz135_1, hfz135_0, hfz135_1⟩ := c2_ BK611.out
               go_wp2_with (first | ((with_reducible refine Zf (f := 27) rfl ?_); refine ZC (some 112) rfl rfl Try.func27 (by kernel_rfl) rfl #[.agg #[.int .i64 t607, .slice Ao14 t608.length co14]] rfl ar_ ?_; (with_reducible refine (impl_Grounded.calls kj77 t607 _ _ t608 t643 _ ?side1 ?side2 A85.out).mono ?_); (case side1 => exact sA_ (Zn HO_612001.out).2.2); (case side2 => exact (Zn HO_612001.out).2.1); rintro e w136 ⟨v644, rfl, ho0, hb⟩; refine ⟨_, rfl, ?_⟩; have HO645 := Aside0.mk (Kd.V_lower (ZR (ok' := fun k_ => some k_ ≠ (.slice Ao14 t608.length co14 : Value).ownBlock ∧ k_ ≠ gb611) ho0 (fun k_ hk_ => ⟨(ZM (Kd.N_lt (rN_ HO_612001.out)) k_ hk_), (Kd.freshB (bq_ BK611.out) k_ hk_)⟩)) (Ze hB_)); replace HO_612001 := Aside0.mk (ZH (rN_ HO_612001.out) hb); replace BK611 := Aside0.mk (Zd (bq_ BK611.out) hb); replace HB := Aside0.mk (Zc hB_ hb); (try clear hb); (try clear ho0); obtain ⟨Ao137, co137, eo137⟩ := Kd.V_slice HO645.out; subst eo137) | ((with_reducible refine Zf (f := 30) rfl ?_); refine ZC (some 114) rfl rfl Try.func30 (by kernel_rfl) rfl #[.slice Ao137 t643.length co137, .int .i64 x11_5] rfl ar_ ?_; (with_reducible refine (laws_contains.calls kj77 _ _ t643 x11_5 false _ ?side1 ?side2 A86.out).mono ?_); (case side1 => exact sA_ (Kd.V_reads' HO645.out).2.2); (case side2 => exact (Kd.V_reads' HO645.out).2.1); rintro e w' ⟨rfl, ⟨nd, rfl⟩⟩; refine ⟨_, rfl, ?_⟩; obtain ⟨hcz138_0, hcz138_1, hfz138_0, hfz138_1⟩ := c2_ BK611.out) | (go_at_call 31; (with_reducible refine (impl_IsCertain.calls kj77 t607 _ _ t608 x11_5 true _ ?side1 ?side2 A124.out).mono ?_); (case side1 => exact sA_ (Zn HO_612001.out).2.2); (case side2 => exact (Zn HO_612001.out).2.1); rintro e w139 ⟨rfl, hb⟩; replace HO_612001 := Aside0.mk (ZH (rN_ HO_612001.out) hb); replace HO645 := Aside0.mk (Kd.V_below (rV_ HO645.out) hb); replace BK611 := Aside0.mk (Zd (bq_ BK611.out) hb); replace HB := Aside0.mk (Zc hB_ hb); (try clear hb); obtain ⟨hcz140_0, hcz140_1, hfz140_0, hfz140_1⟩ := c2_ BK611.out) | (go_at_call 32; (with_reducible refine (impl_IsCredible.calls kj77 t607 _ _ t608 x11_5 false _ ?side1 ?side2 A126.out).mono ?_); (case side1 => exact sA_ (Zn HO_612001.out).2.2); (case side2 => exact (Zn HO_612001.out).2.1); rintro e w141 ⟨rfl, hb⟩; replace HO_612001 := Aside0.mk (ZH (rN_ HO_612001.out) hb); replace HO645 := Aside0.mk (Kd.V_below (rV_ HO645.out) hb); replace BK611 := Aside0.mk (Zd (bq_ BK611.out) hb); replace HB := Aside0.mk (Zc hB_ hb); (try clear hb)))
               all_goals go_ret
               all_goals exact ⟨er_, hB_⟩
              subst c127
              rw [if_pos rfl] at H
              try dsimp only at H
              have H' := Aside0.mk H
              clear H
              obtain ⟨hcz128_0, hcz128_1, hfz128_0, hfz128_1⟩ := c2_ BK611.out
              go_wp2_with (first | ((with_reducible refine Zf (f := 27) rfl ?_); refine ZC (some 112) rfl rfl Try.func27 (by kernel_rfl) rfl #[.agg #[.int .i64 t607, .slice Ao14 t608.length co14]] rfl ar_ ?_; (with_reducible refine (impl_Grounded.calls kj77 t607 _ _ t608 t643 _ ?side1 ?side2 A85.out).mono ?_); (case side1 => exact sA_ (Zn HO_612001.out).2.2); (case side2 => exact (Zn HO_612001.out).2.1); rintro e w129 ⟨v644, rfl, ho0, hb⟩; refine ⟨_, rfl, ?_⟩; have HO645 := Aside0.mk (Kd.V_lower (ZR (ok' := fun k_ => some k_ ≠ (.slice Ao14 t608.length co14 : Value).ownBlock ∧ k_ ≠ gb611) ho0 (fun k_ hk_ => ⟨(ZM (Kd.N_lt (rN_ HO_612001.out)) k_ hk_), (Kd.freshB (bq_ BK611.out) k_ hk_)⟩)) (Ze hB_)); replace HO_612001 := Aside0.mk (ZH (rN_ HO_612001.out) hb); replace BK611 := Aside0.mk (Zd (bq_ BK611.out) hb); replace HB := Aside0.mk (Zc hB_ hb); (try clear hb); (try clear ho0); obtain ⟨Ao130, co130, eo130⟩ := Kd.V_slice HO645.out; subst eo130) | ((with_reducible refine Zf (f := 30) rfl ?_); refine ZC (some 114) rfl rfl Try.func30 (by kernel_rfl) rfl #[.slice Ao130 t643.length co130, .int .i64 x11_5] rfl ar_ ?_; (with_reducible refine (laws_contains.calls kj77 _ _ t643 x11_5 false _ ?side1 ?side2 A86.out).mono ?_); (case side1 => exact sA_ (Kd.V_reads' HO645.out).2.2); (case side2 => exact (Kd.V_reads' HO645.out).2.1); rintro e w' ⟨rfl, ⟨nd, rfl⟩⟩; refine ⟨_, rfl, ?_⟩; obtain ⟨hcz131_0, hcz131_1, hfz131_0, hfz131_1⟩ := c2_ BK611.out) | (go_at_call 31; (with_reducible refine (impl_IsCertain.calls kj77 t607 _ _ t608 x11_5 true _ ?side1 ?side2 A124.out).mono ?_); (case side1 => exact sA_ (Zn HO_612001.out).2.2); (case side2 => exact (Zn HO_612001.out).2.1); rintro e w132 ⟨rfl, hb⟩; replace HO_612001 := Aside0.mk (ZH (rN_ HO_612001.out) hb); replace HO645 := Aside0.mk (Kd.V_below (rV_ HO645.out) hb); replace BK611 := Aside0.mk (Zd (bq_ BK611.out) hb); replace HB := Aside0.mk (Zc hB_ hb); (try clear hb); obtain ⟨hcz133_0, hcz133_1, hfz133_0, hfz133_1⟩ := c2_ BK611.out) | (go_at_call 32; (with_reducible refine (impl_IsCredible.calls kj77 t607 _ _ t608 x11_5 true _ ?side1 ?side2 A126.out).mono ?_); (case side1 => exact sA_ (Zn HO_612001.out).2.2); (case side2 => exact (Zn HO_612001.out).2.1); rintro e w134 ⟨rfl, hb⟩; replace HO_612001 := Aside0.mk (ZH (rN_ HO_612001.out) hb); replace HO645 := Aside0.mk (Kd.V_below (rV_ HO645.out) hb); replace BK611 := Aside0.mk (Zd (bq_ BK611.out) hb); replace HB := Aside0.mk (Zc hB_ hb); (try clear hb)))
              go_roundg kj77
              case measure => have := HJ9.out; have := HK2.out; have := HJ49.out; have := HK4.out; have := HK5.out; have := HJ77.out; omega
              case rel => exact ⟨(wrap64 (x11_5 + 1)), sm_, H', ⟨by have := HJ9.out; have := HK2.out; have := HJ49.out; have := HK4.out; have := HK5.out; have := HJ77.out; omega⟩, ⟨rN_ HO_612001.out⟩, ⟨bk_ BK611.out⟩, ⟨hB_⟩⟩
             subst c87
             rw [if_pos rfl] at H
             try dsimp only at H
             obtain ⟨t647, A88, H⟩ := bd_ H
             try dsimp only at H
             by_cases c89 : t647 = true
             rotate_left
             ·replace c89 := Bool.eq_false_iff.mpr c89
              subst c89
              rw [if_neg (show ¬ (false = true) by decide)] at H
              try dsimp only at H
              obtain rfl := Option.some.inj H
              obtain ⟨hcz119_0, hcz119_1, hfz119_0, hfz119_1⟩ := c2_ BK611.out
              go_wp2_with (first | ((with_reducible refine Zf (f := 27) rfl ?_); refine ZC (some 112) rfl rfl Try.func27 (by kernel_rfl) rfl #[.agg #[.int .i64 t607, .slice Ao14 t608.length co14]] rfl ar_ ?_; (with_reducible refine (impl_Grounded.calls kj77 t607 _ _ t608 t643 _ ?side1 ?side2 A85.out).mono ?_); (case side1 => exact sA_ (Zn HO_612001.out).2.2); (case side2 => exact (Zn HO_612001.out).2.1); rintro e w120 ⟨v644, rfl, ho0, hb⟩; refine ⟨_, rfl, ?_⟩; have HO645 := Aside0.mk (Kd.V_lower (ZR (ok' := fun k_ => some k_ ≠ (.slice Ao14 t608.length co14 : Value).ownBlock ∧ k_ ≠ gb611) ho0 (fun k_ hk_ => ⟨(ZM (Kd.N_lt (rN_ HO_612001.out)) k_ hk_), (Kd.freshB (bq_ BK611.out) k_ hk_)⟩)) (Ze hB_)); replace HO_612001 := Aside0.mk (ZH (rN_ HO_612001.out) hb); replace BK611 := Aside0.mk (Zd (bq_ BK611.out) hb); replace HB := Aside0.mk (Zc hB_ hb); (try clear hb); (try clear ho0); obtain ⟨Ao121, co121, eo121⟩ := Kd.V_slice HO645.out; subst eo121) | ((with_reducible refine Zf (f := 30) rfl ?_); refine ZC (some 114) rfl rfl Try.func30 (by kernel_rfl) rfl #[.slice Ao121 t643.length co121, .int .i64 x11_5] rfl ar_ ?_; (with_reducible refine (laws_contains.calls kj77 _ _ t643 x11_5 true _ ?side1 ?side2 A86.out).mono ?_); (case side1 => exact sA_ (Kd.V_reads' HO645.out).2.2); (case side2 => exact (Kd.V_reads' HO645.out).2.1); rintro e w' ⟨rfl, ⟨nd, rfl⟩⟩; refine ⟨_, rfl, ?_⟩; obtain ⟨hcz122_0, hcz122_1, hfz122_0, hfz122_1⟩ := c2_ BK611.out) | (go_at_call 31; (with_reducible refine (impl_IsCertain.calls kj77 t607 _ _ t608 x11_5 false _ ?side1 ?side2 A88.out).mono ?_); (case side1 => exact sA_ (Zn HO_612001.out).2.2); (case side2 => exact (Zn HO_612001.out).2.1); rintro e w123 ⟨rfl, hb⟩; replace HO_612001 := Aside0.mk (ZH (rN_ HO_612001.out) hb); replace HO645 := Aside0.mk (Kd.V_below (rV_ HO645.out) hb); replace BK611 := Aside0.mk (Zd (bq_ BK611.out) hb); replace HB := Aside0.mk (Zc hB_ hb); (try clear hb)))
              all_goals go_ret
              all_goals exact ⟨er_, hB_⟩
             subst c89
             rw [if_pos rfl] at H
             try dsimp only at H
             obtain ⟨t648, A90, H⟩ := bd_ H
             try dsimp only at H
             by_cases c91 : t648 = true
             rotate_left
             ·replace c91 := Bool.eq_false_iff.mpr c91
              subst c91
              exact absurd (A88.out.symm.trans A90.out) (by simp)
             subst c91
             rw [if_pos rfl] at H
             try dsimp only at H
             obtain ⟨t649, A92, H⟩ := bd_ H
             try dsimp only at H
             by_cases c93 : t649 = true
             rotate_left
             ·replace c93 := Bool.eq_false_iff.mpr c93
              subst c93
              rw [if_neg (show ¬ (false = true) by decide)] at H
              try dsimp only at H
              obtain rfl := Option.some.inj H
              obtain ⟨hcz103_0, hcz103_1, hfz103_0, hfz103_1⟩ := c2_ BK611.out
              go_wp2_with (first | ((with_reducible refine Zf (f := 27) rfl ?_); refine ZC (some 112) rfl rfl Try.func27 (by kernel_rfl) rfl #[.agg #[.int .i64 t607, .slice Ao14 t608.length co14]] rfl ar_ ?_; (with_reducible refine (impl_Grounded.calls kj77 t607 _ _ t608 t643 _ ?side1 ?side2 A85.out).mono ?_); (case side1 => exact sA_ (Zn HO_612001.out).2.2); (case side2 => exact (Zn HO_612001.out).2.1); rintro e w104 ⟨v644, rfl, ho0, hb⟩; refine ⟨_, rfl, ?_⟩; have HO645 := Aside0.mk (Kd.V_lower (ZR (ok' := fun k_ => some k_ ≠ (.slice Ao14 t608.length co14 : Value).ownBlock ∧ k_ ≠ gb611) ho0 (fun k_ hk_ => ⟨(ZM (Kd.N_lt (rN_ HO_612001.out)) k_ hk_), (Kd.freshB (bq_ BK611.out) k_ hk_)⟩)) (Ze hB_)); replace HO_612001 := Aside0.mk (ZH (rN_ HO_612001.out) hb); replace BK611 := Aside0.mk (Zd (bq_ BK611.out) hb); replace HB := Aside0.mk (Zc hB_ hb); (try clear hb); (try clear ho0); obtain ⟨Ao105, co105, eo105⟩ := Kd.V_slice HO645.out; subst eo105) | ((with_reducible refine Zf (f := 30) rfl ?_); refine ZC (some 114) rfl rfl Try.func30 (by kernel_rfl) rfl #[.slice Ao105 t643.length co105, .int .i64 x11_5] rfl ar_ ?_; (with_reducible refine (laws_contains.calls kj77 _ _ t643 x11_5 true _ ?side1 ?side2 A86.out).mono ?_); (case side1 => exact sA_ (Kd.V_reads' HO645.out).2.2); (case side2 => exact (Kd.V_reads' HO645.out).2.1); rintro e w' ⟨rfl, ⟨nd, rfl⟩⟩; refine ⟨_, rfl, ?_⟩; obtain ⟨hcz106_0, hcz106_1, hfz106_0, hfz106_1⟩ := c2_ BK611.out) | (go_at_call 31; (with_reducible refine (impl_IsCertain.calls kj77 t607 _ _ t608 x11_5 true _ ?side1 ?side2 A88.out).mono ?_); (case side1 => exact sA_ (Zn HO_612001.out).2.2); (case side2 => exact (Zn HO_612001.out).2.1); rintro e w107 ⟨rfl, hb⟩; replace HO_612001 := Aside0.mk (ZH (rN_ HO_612001.out) hb); replace HO645 := Aside0.mk (Kd.V_below (rV_ HO645.out) hb); replace BK611 := Aside0.mk (Zd (bq_ BK611.out) hb); replace HB := Aside0.mk (Zc hB_ hb); (try clear hb); obtain ⟨hcz108_0, hcz108_1, hfz108_0, hfz108_1⟩ := c2_ BK611.out) | (go_at_call 31; (with_reducible refine (impl_IsCertain.calls kj77 t607 _ _ t608 x11_5 true _ ?side1 ?side2 A90.out).mono ?_); (case side1 => exact sA_ (Zn HO_612001.out).2.2); (case side2 => exact (Zn HO_612001.out).2.1); rintro e w109 ⟨rfl, hb⟩; replace HO_612001 := Aside0.mk (ZH (rN_ HO_612001.out) hb); replace HO645 := Aside0.mk (Kd.V_below (rV_ HO645.out) hb); replace BK611 := Aside0.mk (Zd (bq_ BK611.out) hb); replace HB := Aside0.mk (Zc hB_ hb); (try clear hb); obtain ⟨hcz110_0, hcz110_1, hfz110_0, hfz110_1⟩ := c2_ BK611.out) | (go_at_call 32; (with_reducible refine (impl_IsCredible.calls kj77 t607 _ _ t608 x11_5 false _ ?side1 ?side2 A92.out).mono ?_); (case side1 => exact sA_ (Zn HO_612001.out).2.2); (case side2 => exact (Zn HO_612001.out).2.1); rintro e w111 ⟨rfl, hb⟩; replace HO_612001 := Aside0.mk (ZH (rN_ HO_612001.out) hb); replace HO645 := Aside0.mk (Kd.V_below (rV_ HO645.out) hb); replace BK611 := Aside0.mk (Zd (bq_ BK611.out) hb); replace HB := Aside0.mk (Zc hB_ hb); (try clear hb)))
              all_goals go_ret
              all_goals exact ⟨er_, hB_⟩
             subst c93
             rw [if_pos rfl] at H
             try dsimp only at H
             have H' := Aside0.mk H
             clear H
             obtain ⟨hcz94_0, hcz94_1, hfz94_0, hfz94_1⟩ := c2_ BK611.out
             go_wp2_with (first | ((with_reducible refine Zf (f := 27) rfl ?_); refine ZC (some 112) rfl rfl Try.func27 (by kernel_rfl) rfl #[.agg #[.int .i64 t607, .slice Ao14 t608.length co14]] rfl ar_ ?_; (with_reducible refine (impl_Grounded.calls kj77 t607 _ _ t608 t643 _ ?side1 ?side2 A85.out).mono ?_); (case side1 => exact sA_ (Zn HO_612001.out).2.2); (case side2 => exact (Zn HO_612001.out).2.1); rintro e w95 ⟨v644, rfl, ho0, hb⟩; refine ⟨_, rfl, ?_⟩; have HO645 := Aside0.mk (Kd.V_lower (ZR (ok' := fun k_ => some k_ ≠ (.slice Ao14 t608.length co14 : Value).ownBlock ∧ k_ ≠ gb611) ho0 (fun k_ hk_ => ⟨(ZM (Kd.N_lt (rN_ HO_612001.out)) k_ hk_), (Kd.freshB (bq_ BK611.out) k_ hk_)⟩)) (Ze hB_)); replace HO_612001 := Aside0.mk (ZH (rN_ HO_612001.out) hb); replace BK611 := Aside0.mk (Zd (bq_ BK611.out) hb); replace HB := Aside0.mk (Zc hB_ hb); (try clear hb); (try clear ho0); obtain ⟨Ao96, co96, eo96⟩ := Kd.V_slice HO645.out; subst eo96) | ((with_reducible refine Zf (f := 30) rfl ?_); refine ZC (some 114) rfl rfl Try.func30 (by kernel_rfl) rfl #[.slice Ao96 t643.length co96, .int .i64 x11_5] rfl ar_ ?_; (with_reducible refine (laws_contains.calls kj77 _ _ t643 x11_5 true _ ?side1 ?side2 A86.out).mono ?_); (case side1 => exact sA_ (Kd.V_reads' HO645.out).2.2); (case side2 => exact (Kd.V_reads' HO645.out).2.1); rintro e w' ⟨rfl, ⟨nd, rfl⟩⟩; refine ⟨_, rfl, ?_⟩; obtain ⟨hcz97_0, hcz97_1, hfz97_0, hfz97_1⟩ := c2_ BK611.out) | (go_at_call 31; (with_reducible refine (impl_IsCertain.calls kj77 t607 _ _ t608 x11_5 true _ ?side1 ?side2 A88.out).mono ?_); (case side1 => exact sA_ (Zn HO_612001.out).2.2); (case side2 => exact (Zn HO_612001.out).2.1); rintro e w98 ⟨rfl, hb⟩; replace HO_612001 := Aside0.mk (ZH (rN_ HO_612001.out) hb); replace HO645 := Aside0.mk (Kd.V_below (rV_ HO645.out) hb); replace BK611 := Aside0.mk (Zd (bq_ BK611.out) hb); replace HB := Aside0.mk (Zc hB_ hb); (try clear hb); obtain ⟨hcz99_0, hcz99_1, hfz99_0, hfz99_1⟩ := c2_ BK611.out) | (go_at_call 31; (with_reducible refine (impl_IsCertain.calls kj77 t607 _ _ t608 x11_5 true _ ?side1 ?side2 A90.out).mono ?_); (case side1 => exact sA_ (Zn HO_612001.out).2.2); (case side2 => exact (Zn HO_612001.out).2.1); rintro e w100 ⟨rfl, hb⟩; replace HO_612001 := Aside0.mk (ZH (rN_ HO_612001.out) hb); replace HO645 := Aside0.mk (Kd.V_below (rV_ HO645.out) hb); replace BK611 := Aside0.mk (Zd (bq_ BK611.out) hb); replace HB := Aside0.mk (Zc hB_ hb); (try clear hb); obtain ⟨hcz101_0, hcz101_1, hfz101_0, hfz101_1⟩ := c2_ BK611.out) | (go_at_call 32; (with_reducible refine (impl_IsCredible.calls kj77 t607 _ _ t608 x11_5 true _ ?side1 ?side2 A92.out).mono ?_); (case side1 => exact sA_ (Zn HO_612001.out).2.2); (case side2 => exact (Zn HO_612001.out).2.1); rintro e w102 ⟨rfl, hb⟩; replace HO_612001 := Aside0.mk (ZH (rN_ HO_612001.out) hb); replace HO645 := Aside0.mk (Kd.V_below (rV_ HO645.out) hb); replace BK611 := Aside0.mk (Zd (bq_ BK611.out) hb); replace HB := Aside0.mk (Zc hB_ hb); (try clear hb)))
             go_roundg kj77
             case measure => have := HJ9.out; have := HK2.out; have := HJ49.out; have := HK4.out; have := HK5.out; have := HJ77.out; omega
             case rel => exact ⟨(wrap64 (x11_5 + 1)), sm_, H', ⟨by have := HJ9.out; have := HK2.out; have := HJ49.out; have := HK4.out; have := HK5.out; have := HJ77.out; omega⟩, ⟨rN_ HO_612001.out⟩, ⟨bk_ BK611.out⟩, ⟨hB_⟩⟩

/-- THE ONE PURE STATEMENT of laws_FnPositions: yours. -/
def laws_FnPositions.Pure : Prop := ∀ (l0 : List Int), l0.length ≤ maxLen → l0.length * 1 ≤ 140737488351232 → (∀ x ∈ l0, (Lit.int .u8 x).wf = true) → ∃ k, laws_FnPositions.f k l0 = some true
theorem laws_FnPositions.walk (P : laws_FnPositions.Pure) (a0 : Option Addr) (len0 cap0 : Nat) (z0 : List Int) (w : World) (w0 : (a0 = none ∧ len0 = 0 ∧ cap0 = 0 ∧ z0 = []) ∨ ∃ x, a0 = some x ∧ len0 ≤ cap0 ∧ cap0 ≤ maxLen ∧ z0.length = cap0 ∧ (∀ i, i < z0.length → w.cell? (x.add i) = some (.int .u8 (z0.getD i 0))) ∧ ∀ n ∈ z0, (Lit.int .u8 n).wf = true) (y0 : len0 * 1 ≤ 140737488351232) :
  Calls Try.prog 5 #[.slice a0 len0 cap0] w fun e w' => e = .returned (.bool true) ∧ Below w.heap.size w w' := by
 obtain ⟨l0, rfl, hr0, hm0, hw0, hc0⟩ := ReadsInt.ofRowC w0
 obtain ⟨k, h⟩ := P l0 hm0 y0 hw0
 refine (laws_FnPositions.calls k _ _ l0 true w (Kd.C_of_reads (d := (0 : Int)) (h1 := fun _ => rfl) hr0) hc0 h).mono ?_
 rintro e w' ⟨rfl, hd⟩
 exact ⟨rfl, hd⟩

end Go.Proofs.Ytdlobolnajcfnaa.PFnPositions
