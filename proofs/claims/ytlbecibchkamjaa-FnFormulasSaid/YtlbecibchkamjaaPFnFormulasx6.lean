-- Written by a program of this session (hooks of mine on the print): Lean checks it.
import Derived.Test.YtlbecibchkamjaaPFnFormulasx0
import Derived.Test.YtlbecibchkamjaaPFnFormulasx1
import Derived.Test.YtlbecibchkamjaaPFnFormulasx2
import Derived.Test.YtlbecibchkamjaaPFnFormulasx3
import Derived.Test.YtlbecibchkamjaaPFnFormulasx4
import Derived.Test.YtlbecibchkamjaaPFnFormulasx5
namespace Go.Proofs.Ytlbecibchkamjaa.PFnFormulas
open Go.RowKit Go.Proofs.YtlbecibchkamjaaW.PrintWords Go.Proofs.YtlbecibchkamjaaW.PrintLast Go.Proofs.YtlbecibchkamjaaW.PrintMore
attribute [local go_sem] max2_int min2_int max_two min_two max_three min_three max_four min_four   -- for this text's walks alone
set_option linter.unusedVariables false
set_option linter.unusedSimpArgs false

/-! ### laws_FnFormulas: function 10 -/
theorem Qa10 : type_of% @Kd.Q_alloc := @Kd.Q_alloc
theorem Qn10 : type_of% @Kd.Q_drewN := @Kd.Q_drewN
theorem Qd10 : type_of% @Kd.Q_drew := @Kd.Q_drew
theorem Ra10 : type_of% @Kd.R_alloc := @Kd.R_alloc
theorem Rn10 : type_of% @Kd.R_drewN := @Kd.R_drewN
theorem Rd10 : type_of% @Kd.R_drew := @Kd.R_drew
theorem Ca10 : type_of% @Kd.C_alloc := @Kd.C_alloc
theorem Cn10 : type_of% @Kd.C_drewN := @Kd.C_drewN
theorem Cd10 : type_of% @Kd.C_drew := @Kd.C_drew
theorem Ba10 : type_of% @below_alloc := @below_alloc
theorem Bn10 : type_of% @pw_below_drewN := @pw_below_drewN
theorem Bd10 : type_of% @below_drew1 := @below_drew1
theorem Am10 : type_of% @Aside0.mk := @Aside0.mk
theorem Rr10 : type_of% @Kd.R_reads' := @Kd.R_reads'
theorem Qr10 : type_of% @Kd.Q_reads' := @Kd.Q_reads'
mutual
def laws_FnFormulas.j0 : Nat → List Int → List Int → List Bool → Bool → Option (Bool)
 | 0, _, _, _, _ => none
 | k + 1, x0, x3, x4, x49 => if x49 = true then (some false) else ((spec_DrawJoin.f k x0).bind fun bt362 => ((impl_Join.f k bt362.1 bt362.2.1 bt362.2.2).bind fun t369 => (if (t369.length : Int) > 0 then ((impl_Value.f k bt362.1 x4).bind fun t372 => ((impl_Value.f k bt362.2.1 x4).bind fun t373 => ((impl_Value.f k t369 x4).bind fun t374 => (if bt362.2.2 = (-2) then (if t372 = true then (if (t374 != t373) = true then (some false) else (if bt362.2.2 = (-3) then (if (t374 != true) = true then (some false) else (if bt362.2.2 = (-4) then (laws_FnFormulas.j1 k x3 x4) else (laws_FnFormulas.j1 k x3 x4))) else (if bt362.2.2 = (-4) then (laws_FnFormulas.j1 k x3 x4) else (laws_FnFormulas.j1 k x3 x4)))) else (if (t374 != false) = true then (some false) else (if bt362.2.2 = (-3) then (if (t374 != t373) = true then (some false) else (if bt362.2.2 = (-4) then (if (t374 != true) = true then (some false) else (laws_FnFormulas.j1 k x3 x4)) else (laws_FnFormulas.j1 k x3 x4))) else (if bt362.2.2 = (-4) then (if (t374 != true) = true then (some false) else (laws_FnFormulas.j1 k x3 x4)) else (laws_FnFormulas.j1 k x3 x4))))) else (if bt362.2.2 = (-3) then (if t372 = true then (if (t374 != true) = true then (some false) else (if bt362.2.2 = (-4) then (if (t374 != t373) = true then (some false) else (laws_FnFormulas.j1 k x3 x4)) else (laws_FnFormulas.j1 k x3 x4))) else (if (t374 != t373) = true then (some false) else (if bt362.2.2 = (-4) then (if (t374 != true) = true then (some false) else (laws_FnFormulas.j1 k x3 x4)) else (laws_FnFormulas.j1 k x3 x4)))) else (if bt362.2.2 = (-4) then (if t372 = true then (if (t374 != t373) = true then (some false) else (laws_FnFormulas.j1 k x3 x4)) else (if (t374 != true) = true then (some false) else (laws_FnFormulas.j1 k x3 x4))) else (laws_FnFormulas.j1 k x3 x4))))))) else (laws_FnFormulas.j1 k x3 x4))))
def laws_FnFormulas.j1 : Nat → List Int → List Bool → Option (Bool)
 | 0, _, _ => none
 | k + 1, x3, x4 => (impl_LettersIn.f k x3).bind fun t375 => (laws_FnFormulas.l0 k x3 x4 t375 0)
def laws_FnFormulas.l0 : Nat → List Int → List Bool → List Int → Int → Option (Bool)
 | 0, _, _, _, _ => none
 | k + 1, x3, x4, x13, x14 => if x14 < (x4.length : Int) then ((impl_IsFormula.f k x3).bind fun t378 => (laws_FnFormulas.j3 k x3 x4 x13 x14 t378)) else (laws_FnFormulas.j3 k x3 x4 x13 x14 false)
def laws_FnFormulas.j3 : Nat → List Int → List Bool → List Int → Int → Bool → Option (Bool)
 | 0, _, _, _, _, _ => none
 | k + 1, x3, x4, x13, x14, x116 => if x116 = true then ((some (([] : List Bool) : List Bool)).bind fun y380 => (if y380.length + x4.length < 140737488355328 then ((some (y380 ++ x4 : List Bool)).bind fun y383 => (if 0 ≤ x14 then (if x14 < (y383.length : Int) then ((laws_contains.f k x13 x14).bind fun t388 => (if t388 = true then (laws_FnFormulas.l0 k x3 x4 x13 (wrap64 (x14 + 1))) else ((impl_Value.f k x3 (y383.set (x14 : Int).toNat (!(rdOf false y383 x14)))).bind fun t389 => ((impl_Value.f k x3 x4).bind fun t390 => (if (t389 != t390) = true then (some false) else (laws_FnFormulas.l0 k x3 x4 x13 (wrap64 (x14 + 1)))))))) else (none)) else (none))) else (none))) else ((laws_ascends.f k x13).bind fun t379 => (some t379))
end
def laws_FnFormulas.f (k : Nat) (l0 : List Int) : Option (Bool) := (laws_big.f l0).bind fun t344 => (if t344 = true then (some true) else ((spec_DrawValue.f k l0).bind fun bt345 => ((impl_NotOf.f k bt345.1).bind fun t351 => ((impl_IsFormula.f k bt345.1).bind fun t354 => ((spec_IsFormula.f k bt345.1).bind fun t355 => (if (t354 != t355) = true then (some false) else (if (t351.length : Int) > 0 then ((impl_Value.f k t351 bt345.2).bind fun t356 => ((impl_Value.f k bt345.1 bt345.2).bind fun t357 => (if (t356 == t357) = true then (laws_FnFormulas.j0 k l0 bt345.1 bt345.2 true) else ((impl_IsFormula.f k bt345.1).bind fun t358 => ((impl_FormulaText.f k bt345.1).bind fun t359 => (laws_FnFormulas.j0 k l0 bt345.1 bt345.2 (t358 != (t359.toList != ([] : List UInt8))))))))) else ((impl_IsFormula.f k bt345.1).bind fun t360 => ((impl_FormulaText.f k bt345.1).bind fun t361 => (laws_FnFormulas.j0 k l0 bt345.1 bt345.2 (t360 != (t361.toList != ([] : List UInt8)))))))))))))
theorem laws_FnFormulas.mono_l : ∀ k, (∀ y0 y1 y2 y3, LeO (laws_FnFormulas.j0 k y0 y1 y2 y3) (laws_FnFormulas.j0 (k + 1) y0 y1 y2 y3)) ∧ (∀ y0 y1, LeO (laws_FnFormulas.j1 k y0 y1) (laws_FnFormulas.j1 (k + 1) y0 y1)) ∧ (∀ y0 y1 y2 y3, LeO (laws_FnFormulas.l0 k y0 y1 y2 y3) (laws_FnFormulas.l0 (k + 1) y0 y1 y2 y3)) ∧ (∀ y0 y1 y2 y3 y4, LeO (laws_FnFormulas.j3 k y0 y1 y2 y3 y4) (laws_FnFormulas.j3 (k + 1) y0 y1 y2 y3 y4))
 | 0 => ⟨fun _ _ _ _ r h => by simp [laws_FnFormulas.j0] at h, fun _ _ r h => by simp [laws_FnFormulas.j1] at h, fun _ _ _ _ r h => by simp [laws_FnFormulas.l0] at h, fun _ _ _ _ _ r h => by simp [laws_FnFormulas.j3] at h⟩
 | k + 1 => by
  obtain ⟨ih0, ih1, ih2, ih3⟩ := laws_FnFormulas.mono_l k
  refine ⟨?_, ?_, ?_, ?_⟩
  ·intro y0 y1 y2 y3
   unfold laws_FnFormulas.j0
   repeat' first
   | (with_reducible exact ih0 _ _ _ _)
   | (with_reducible exact ih1 _ _)
   | (with_reducible exact ih2 _ _ _ _)
   | (with_reducible exact ih3 _ _ _ _ _)
   | (with_reducible exact impl_FormulaText.mono _ _)
   | (with_reducible exact impl_IsFormula.mono _ _)
   | (with_reducible exact impl_Join.mono _ _ _ _)
   | (with_reducible exact impl_LettersIn.mono _ _)
   | (with_reducible exact impl_NotOf.mono _ _)
   | (with_reducible exact impl_Value.mono _ _ _)
   | (with_reducible exact laws_ascends.mono _ _)
   | (with_reducible exact laws_contains.mono _ _ _)
   | (with_reducible exact spec_DrawJoin.mono _ _)
   | (with_reducible exact spec_DrawValue.mono _ _)
   | (with_reducible exact spec_IsFormula.mono _ _)
   | (with_reducible exact LeO.refl _)
   | (with_reducible exact LeO.none _)
   | (with_reducible refine LeO.ite ?_ ?_)
   | (with_reducible refine LeO.bind ?_ (fun _ => ?_))
   | exact ih0 _ _ _ _
   | exact ih1 _ _
   | exact ih2 _ _ _ _
   | exact ih3 _ _ _ _ _
   | exact impl_FormulaText.mono _ _
   | exact impl_IsFormula.mono _ _
   | exact impl_Join.mono _ _ _ _
   | exact impl_LettersIn.mono _ _
   | exact impl_NotOf.mono _ _
   | exact impl_Value.mono _ _ _
   | exact laws_ascends.mono _ _
   | exact laws_contains.mono _ _ _
   | exact spec_DrawJoin.mono _ _
   | exact spec_DrawValue.mono _ _
   | exact spec_IsFormula.mono _ _
   | exact LeO.none _
   | refine LeO.ite ?_ ?_
   | refine LeO.bind ?_ (fun _ => ?_)
  ·intro y0 y1
   unfold laws_FnFormulas.j1
   repeat' first
   | (with_reducible exact ih0 _ _ _ _)
   | (with_reducible exact ih1 _ _)
   | (with_reducible exact ih2 _ _ _ _)
   | (with_reducible exact ih3 _ _ _ _ _)
   | (with_reducible exact impl_FormulaText.mono _ _)
   | (with_reducible exact impl_IsFormula.mono _ _)
   | (with_reducible exact impl_Join.mono _ _ _ _)
   | (with_reducible exact impl_LettersIn.mono _ _)
   | (with_reducible exact impl_NotOf.mono _ _)
   | (with_reducible exact impl_Value.mono _ _ _)
   | (with_reducible exact laws_ascends.mono _ _)
   | (with_reducible exact laws_contains.mono _ _ _)
   | (with_reducible exact spec_DrawJoin.mono _ _)
   | (with_reducible exact spec_DrawValue.mono _ _)
   | (with_reducible exact spec_IsFormula.mono _ _)
   | (with_reducible exact LeO.refl _)
   | (with_reducible exact LeO.none _)
   | (with_reducible refine LeO.ite ?_ ?_)
   | (with_reducible refine LeO.bind ?_ (fun _ => ?_))
   | exact ih0 _ _ _ _
   | exact ih1 _ _
   | exact ih2 _ _ _ _
   | exact ih3 _ _ _ _ _
   | exact impl_FormulaText.mono _ _
   | exact impl_IsFormula.mono _ _
   | exact impl_Join.mono _ _ _ _
   | exact impl_LettersIn.mono _ _
   | exact impl_NotOf.mono _ _
   | exact impl_Value.mono _ _ _
   | exact laws_ascends.mono _ _
   | exact laws_contains.mono _ _ _
   | exact spec_DrawJoin.mono _ _
   | exact spec_DrawValue.mono _ _
   | exact spec_IsFormula.mono _ _
   | exact LeO.none _
   | refine LeO.ite ?_ ?_
   | refine LeO.bind ?_ (fun _ => ?_)
  ·intro y0 y1 y2 y3
   unfold laws_FnFormulas.l0
   repeat' first
   | (with_reducible exact ih0 _ _ _ _)
   | (with_reducible exact ih1 _ _)
   | (with_reducible exact ih2 _ _ _ _)
   | (with_reducible exact ih3 _ _ _ _ _)
   | (with_reducible exact impl_FormulaText.mono _ _)
   | (with_reducible exact impl_IsFormula.mono _ _)
   | (with_reducible exact impl_Join.mono _ _ _ _)
   | (with_reducible exact impl_LettersIn.mono _ _)
   | (with_reducible exact impl_NotOf.mono _ _)
   | (with_reducible exact impl_Value.mono _ _ _)
   | (with_reducible exact laws_ascends.mono _ _)
   | (with_reducible exact laws_contains.mono _ _ _)
   | (with_reducible exact spec_DrawJoin.mono _ _)
   | (with_reducible exact spec_DrawValue.mono _ _)
   | (with_reducible exact spec_IsFormula.mono _ _)
   | (with_reducible exact LeO.refl _)
   | (with_reducible exact LeO.none _)
   | (with_reducible refine LeO.ite ?_ ?_)
   | (with_reducible refine LeO.bind ?_ (fun _ => ?_))
   | exact ih0 _ _ _ _
   | exact ih1 _ _
   | exact ih2 _ _ _ _
   | exact ih3 _ _ _ _ _
   | exact impl_FormulaText.mono _ _
   | exact impl_IsFormula.mono _ _
   | exact impl_Join.mono _ _ _ _
   | exact impl_LettersIn.mono _ _
   | exact impl_NotOf.mono _ _
   | exact impl_Value.mono _ _ _
   | exact laws_ascends.mono _ _
   | exact laws_contains.mono _ _ _
   | exact spec_DrawJoin.mono _ _
   | exact spec_DrawValue.mono _ _
   | exact spec_IsFormula.mono _ _
   | exact LeO.none _
   | refine LeO.ite ?_ ?_
   | refine LeO.bind ?_ (fun _ => ?_)
  ·intro y0 y1 y2 y3 y4
   unfold laws_FnFormulas.j3
   repeat' first
   | (with_reducible exact ih0 _ _ _ _)
   | (with_reducible exact ih1 _ _)
   | (with_reducible exact ih2 _ _ _ _)
   | (with_reducible exact ih3 _ _ _ _ _)
   | (with_reducible exact impl_FormulaText.mono _ _)
   | (with_reducible exact impl_IsFormula.mono _ _)
   | (with_reducible exact impl_Join.mono _ _ _ _)
   | (with_reducible exact impl_LettersIn.mono _ _)
   | (with_reducible exact impl_NotOf.mono _ _)
   | (with_reducible exact impl_Value.mono _ _ _)
   | (with_reducible exact laws_ascends.mono _ _)
   | (with_reducible exact laws_contains.mono _ _ _)
   | (with_reducible exact spec_DrawJoin.mono _ _)
   | (with_reducible exact spec_DrawValue.mono _ _)
   | (with_reducible exact spec_IsFormula.mono _ _)
   | (with_reducible exact LeO.refl _)
   | (with_reducible exact LeO.none _)
   | (with_reducible refine LeO.ite ?_ ?_)
   | (with_reducible refine LeO.bind ?_ (fun _ => ?_))
   | exact ih0 _ _ _ _
   | exact ih1 _ _
   | exact ih2 _ _ _ _
   | exact ih3 _ _ _ _ _
   | exact impl_FormulaText.mono _ _
   | exact impl_IsFormula.mono _ _
   | exact impl_Join.mono _ _ _ _
   | exact impl_LettersIn.mono _ _
   | exact impl_NotOf.mono _ _
   | exact impl_Value.mono _ _ _
   | exact laws_ascends.mono _ _
   | exact laws_contains.mono _ _ _
   | exact spec_DrawJoin.mono _ _
   | exact spec_DrawValue.mono _ _
   | exact spec_IsFormula.mono _ _
   | exact LeO.none _
   | refine LeO.ite ?_ ?_
   | refine LeO.bind ?_ (fun _ => ?_)
theorem laws_FnFormulas.mono : ∀ a0 k, LeO (laws_FnFormulas.f k a0) (laws_FnFormulas.f (k + 1) a0) := by
 intro a0 k
 obtain ⟨ih0, ih1, ih2, ih3⟩ := laws_FnFormulas.mono_l k
 unfold laws_FnFormulas.f
 repeat' first
   | (with_reducible exact ih0 _ _ _ _)
   | (with_reducible exact ih1 _ _)
   | (with_reducible exact ih2 _ _ _ _)
   | (with_reducible exact ih3 _ _ _ _ _)
   | (with_reducible exact impl_FormulaText.mono _ _)
   | (with_reducible exact impl_IsFormula.mono _ _)
   | (with_reducible exact impl_Join.mono _ _ _ _)
   | (with_reducible exact impl_LettersIn.mono _ _)
   | (with_reducible exact impl_NotOf.mono _ _)
   | (with_reducible exact impl_Value.mono _ _ _)
   | (with_reducible exact laws_ascends.mono _ _)
   | (with_reducible exact laws_contains.mono _ _ _)
   | (with_reducible exact spec_DrawJoin.mono _ _)
   | (with_reducible exact spec_DrawValue.mono _ _)
   | (with_reducible exact spec_IsFormula.mono _ _)
   | (with_reducible exact LeO.refl _)
   | (with_reducible exact LeO.none _)
   | (with_reducible refine LeO.ite ?_ ?_)
   | (with_reducible refine LeO.bind ?_ (fun _ => ?_))
   | exact ih0 _ _ _ _
   | exact ih1 _ _
   | exact ih2 _ _ _ _
   | exact ih3 _ _ _ _ _
   | exact impl_FormulaText.mono _ _
   | exact impl_IsFormula.mono _ _
   | exact impl_Join.mono _ _ _ _
   | exact impl_LettersIn.mono _ _
   | exact impl_NotOf.mono _ _
   | exact impl_Value.mono _ _ _
   | exact laws_ascends.mono _ _
   | exact laws_contains.mono _ _ _
   | exact spec_DrawJoin.mono _ _
   | exact spec_DrawValue.mono _ _
   | exact spec_IsFormula.mono _ _
   | exact LeO.none _
   | refine LeO.ite ?_ ?_
   | refine LeO.bind ?_ (fun _ => ?_)
set_option maxHeartbeats 8000000 in
set_option maxRecDepth 100000 in
theorem laws_FnFormulas.calls (k : Nat) (A0 : Option Addr) (c0 : Nat) (l0 : List Int) (r : Bool) (w : World) (hr0 : Kd.C (Kd.int .u8) w A0 l0.length l0) (hc0 : l0.length ≤ c0) (h : laws_FnFormulas.f k l0 = some r) :
  Calls Try.prog 10 #[.slice A0 l0.length c0] w fun e w' => e = .returned (.bool r) ∧ Below w.heap.size w w' := by
 have HR0 := Am10 hr0
 have HC0 := Am10 hc0
 clear hr0 hc0
 have HB := Am10 (Below.refl w.heap.size w)
 have H : ((laws_big.f l0).bind fun t344 => (if t344 = true then (some true) else ((spec_DrawValue.f k l0).bind fun bt345 => ((impl_NotOf.f k bt345.1).bind fun t351 => ((impl_IsFormula.f k bt345.1).bind fun t354 => ((spec_IsFormula.f k bt345.1).bind fun t355 => (if (t354 != t355) = true then (some false) else (if (t351.length : Int) > 0 then ((impl_Value.f k t351 bt345.2).bind fun t356 => ((impl_Value.f k bt345.1 bt345.2).bind fun t357 => (if (t356 == t357) = true then (laws_FnFormulas.j0 k l0 bt345.1 bt345.2 true) else ((impl_IsFormula.f k bt345.1).bind fun t358 => ((impl_FormulaText.f k bt345.1).bind fun t359 => (laws_FnFormulas.j0 k l0 bt345.1 bt345.2 (t358 != (t359.toList != ([] : List UInt8))))))))) else ((impl_IsFormula.f k bt345.1).bind fun t360 => ((impl_FormulaText.f k bt345.1).bind fun t361 => (laws_FnFormulas.j0 k l0 bt345.1 bt345.2 (t360 != (t361.toList != ([] : List UInt8)))))))))))))) = some r := h
 clear h
 replace H := Option.bind_eq_some_iff.mp H
 obtain ⟨t344, A20, H⟩ := H
 replace H : (if t344 = true then (some true) else ((spec_DrawValue.f k l0).bind fun bt345 => ((impl_NotOf.f k bt345.1).bind fun t351 => ((impl_IsFormula.f k bt345.1).bind fun t354 => ((spec_IsFormula.f k bt345.1).bind fun t355 => (if (t354 != t355) = true then (some false) else (if (t351.length : Int) > 0 then ((impl_Value.f k t351 bt345.2).bind fun t356 => ((impl_Value.f k bt345.1 bt345.2).bind fun t357 => (if (t356 == t357) = true then (laws_FnFormulas.j0 k l0 bt345.1 bt345.2 true) else ((impl_IsFormula.f k bt345.1).bind fun t358 => ((impl_FormulaText.f k bt345.1).bind fun t359 => (laws_FnFormulas.j0 k l0 bt345.1 bt345.2 (t358 != (t359.toList != ([] : List UInt8))))))))) else ((impl_IsFormula.f k bt345.1).bind fun t360 => ((impl_FormulaText.f k bt345.1).bind fun t361 => (laws_FnFormulas.j0 k l0 bt345.1 bt345.2 (t360 != (t361.toList != ([] : List UInt8))))))))))))) = some r := H
 have A2 := Am10 A20
 clear A20
 by_cases c3 : t344 = true
 ·subst c3
  have H1 : (some true) = some r := by rw [if_pos rfl] at H; exact H
  clear H
  have H := H1
  clear H1
  obtain rfl := Option.some.inj H
  go_enter Try.func10, Try.ntmps10
  go_wp2_with (first | ((with_reducible refine gate_callee (f := 31) rfl ?_); refine goesL_ (some 17) rfl rfl Try.func31 (by kernel_rfl) rfl #[.slice A0 l0.length c0] rfl (by (try simp only [List.map_toArray, List.map_cons, List.map_nil]); first | done | rfl | (simp only [List.length_drop, List.length_take]; rfl)) ?_; (with_reducible refine (laws_big.calls _ _ l0 true _ ?side1 ?side2 A2.out).mono ?_); (case side1 => repeat (first | exact HR0.out | (with_reducible refine Ca10 ?_ _) | (with_reducible refine Cn10 ?_ _) | (with_reducible refine Cd10 ?_))); (case side2 => exact HC0.out); rintro e w' ⟨rfl, ⟨nd, rfl⟩⟩; refine ⟨_, rfl, ?_⟩))
  all_goals go_ret
  all_goals exact ⟨by first | rfl | (simp [errW_none, errW_some] <;> rfl) | (simp [*, errW_none, errW_some] <;> rfl), by repeat (first | (with_reducible first | exact HB.out | apply Ba10 | apply Bn10 | apply Bd10) | exact HB.out)⟩
 ·replace c3 := Bool.eq_false_iff.mpr c3
  subst c3
  have H1 : ((spec_DrawValue.f k l0).bind fun bt345 => ((impl_NotOf.f k bt345.1).bind fun t351 => ((impl_IsFormula.f k bt345.1).bind fun t354 => ((spec_IsFormula.f k bt345.1).bind fun t355 => (if (t354 != t355) = true then (some false) else (if (t351.length : Int) > 0 then ((impl_Value.f k t351 bt345.2).bind fun t356 => ((impl_Value.f k bt345.1 bt345.2).bind fun t357 => (if (t356 == t357) = true then (laws_FnFormulas.j0 k l0 bt345.1 bt345.2 true) else ((impl_IsFormula.f k bt345.1).bind fun t358 => ((impl_FormulaText.f k bt345.1).bind fun t359 => (laws_FnFormulas.j0 k l0 bt345.1 bt345.2 (t358 != (t359.toList != ([] : List UInt8))))))))) else ((impl_IsFormula.f k bt345.1).bind fun t360 => ((impl_FormulaText.f k bt345.1).bind fun t361 => (laws_FnFormulas.j0 k l0 bt345.1 bt345.2 (t360 != (t361.toList != ([] : List UInt8)))))))))))) = some r := by rw [if_neg (show ¬ (false = true) by decide)] at H; exact H
  clear H
  have H := H1
  clear H1
  replace H := Option.bind_eq_some_iff.mp H
  obtain ⟨⟨t345, t346⟩, A40, H⟩ := H
  replace H : ((impl_NotOf.f k t345).bind fun t351 => ((impl_IsFormula.f k t345).bind fun t354 => ((spec_IsFormula.f k t345).bind fun t355 => (if (t354 != t355) = true then (some false) else (if (t351.length : Int) > 0 then ((impl_Value.f k t351 t346).bind fun t356 => ((impl_Value.f k t345 t346).bind fun t357 => (if (t356 == t357) = true then (laws_FnFormulas.j0 k l0 t345 t346 true) else ((impl_IsFormula.f k t345).bind fun t358 => ((impl_FormulaText.f k t345).bind fun t359 => (laws_FnFormulas.j0 k l0 t345 t346 (t358 != (t359.toList != ([] : List UInt8))))))))) else ((impl_IsFormula.f k t345).bind fun t360 => ((impl_FormulaText.f k t345).bind fun t361 => (laws_FnFormulas.j0 k l0 t345 t346 (t360 != (t361.toList != ([] : List UInt8))))))))))) = some r := H
  have A4 := Am10 A40
  clear A40
  replace H := Option.bind_eq_some_iff.mp H
  obtain ⟨t351, A50, H⟩ := H
  replace H : ((impl_IsFormula.f k t345).bind fun t354 => ((spec_IsFormula.f k t345).bind fun t355 => (if (t354 != t355) = true then (some false) else (if (t351.length : Int) > 0 then ((impl_Value.f k t351 t346).bind fun t356 => ((impl_Value.f k t345 t346).bind fun t357 => (if (t356 == t357) = true then (laws_FnFormulas.j0 k l0 t345 t346 true) else ((impl_IsFormula.f k t345).bind fun t358 => ((impl_FormulaText.f k t345).bind fun t359 => (laws_FnFormulas.j0 k l0 t345 t346 (t358 != (t359.toList != ([] : List UInt8))))))))) else ((impl_IsFormula.f k t345).bind fun t360 => ((impl_FormulaText.f k t345).bind fun t361 => (laws_FnFormulas.j0 k l0 t345 t346 (t360 != (t361.toList != ([] : List UInt8)))))))))) = some r := H
  have A5 := Am10 A50
  clear A50
  replace H := Option.bind_eq_some_iff.mp H
  obtain ⟨t354, A60, H⟩ := H
  replace H : ((spec_IsFormula.f k t345).bind fun t355 => (if (t354 != t355) = true then (some false) else (if (t351.length : Int) > 0 then ((impl_Value.f k t351 t346).bind fun t356 => ((impl_Value.f k t345 t346).bind fun t357 => (if (t356 == t357) = true then (laws_FnFormulas.j0 k l0 t345 t346 true) else ((impl_IsFormula.f k t345).bind fun t358 => ((impl_FormulaText.f k t345).bind fun t359 => (laws_FnFormulas.j0 k l0 t345 t346 (t358 != (t359.toList != ([] : List UInt8))))))))) else ((impl_IsFormula.f k t345).bind fun t360 => ((impl_FormulaText.f k t345).bind fun t361 => (laws_FnFormulas.j0 k l0 t345 t346 (t360 != (t361.toList != ([] : List UInt8))))))))) = some r := H
  have A6 := Am10 A60
  clear A60
  replace H := Option.bind_eq_some_iff.mp H
  obtain ⟨t355, A70, H⟩ := H
  replace H : (if (t354 != t355) = true then (some false) else (if (t351.length : Int) > 0 then ((impl_Value.f k t351 t346).bind fun t356 => ((impl_Value.f k t345 t346).bind fun t357 => (if (t356 == t357) = true then (laws_FnFormulas.j0 k l0 t345 t346 true) else ((impl_IsFormula.f k t345).bind fun t358 => ((impl_FormulaText.f k t345).bind fun t359 => (laws_FnFormulas.j0 k l0 t345 t346 (t358 != (t359.toList != ([] : List UInt8))))))))) else ((impl_IsFormula.f k t345).bind fun t360 => ((impl_FormulaText.f k t345).bind fun t361 => (laws_FnFormulas.j0 k l0 t345 t346 (t360 != (t361.toList != ([] : List UInt8)))))))) = some r := H
  have A7 := Am10 A70
  clear A70
  by_cases c8 : (t354 != t355) = true
  ·rw [if_pos c8] at H
   have c8b0 : (t354 != t355) = true := c8
   (try (have c8b1 : decide (t354 = t355) = false := by simpa using c8))
   (try (have c8b2 : (t354 == t355) = false := by simpa using c8))
   (try (have c8b3 : ¬ (t354 = t355) := by simpa using c8))
   clear c8
   obtain rfl := Option.some.inj H
   go_enter Try.func10, Try.ntmps10
   go_wp2_with (first | ((with_reducible refine gate_callee (f := 31) rfl ?_); refine goesL_ (some 17) rfl rfl Try.func31 (by kernel_rfl) rfl #[.slice A0 l0.length c0] rfl (by (try simp only [List.map_toArray, List.map_cons, List.map_nil]); first | done | rfl | (simp only [List.length_drop, List.length_take]; rfl)) ?_; (with_reducible refine (laws_big.calls _ _ l0 false _ ?side1 ?side2 A2.out).mono ?_); (case side1 => repeat (first | exact HR0.out | (with_reducible refine Ca10 ?_ _) | (with_reducible refine Cn10 ?_ _) | (with_reducible refine Cd10 ?_))); (case side2 => exact HC0.out); rintro e w' ⟨rfl, ⟨nd, rfl⟩⟩; refine ⟨_, rfl, ?_⟩) | ((with_reducible refine gate_callee (f := 37) rfl ?_); refine goesL_ (some 20) rfl rfl Try.func37 (by kernel_rfl) rfl #[.slice A0 l0.length c0] rfl (by (try simp only [List.map_toArray, List.map_cons, List.map_nil]); first | done | rfl | (simp only [List.length_drop, List.length_take]; rfl)) ?_; (with_reducible refine (spec_DrawValue.calls k _ _ l0 t345 t346 _ ?side1 ?side2 A4.out).mono ?_); (case side1 => repeat (first | exact HR0.out | (with_reducible refine Ca10 ?_ _) | (with_reducible refine Cn10 ?_ _) | (with_reducible refine Cd10 ?_))); (case side2 => exact HC0.out); rintro e w9 ⟨v347, v349, rfl, ho0, ho1, hb⟩; refine ⟨_, rfl, ?_⟩; have n0_ := Am10 (Kd.Q_lower ho0 (below_size (by repeat (first | (with_reducible first | exact HB.out | apply Ba10 | apply Bn10 | apply Bd10) | exact HB.out)))); have n1_ := Am10 (Kd.R_lower ho1 (below_size (by repeat (first | (with_reducible first | exact HB.out | apply Ba10 | apply Bn10 | apply Bd10) | exact HB.out)))); have n2_ := Am10 (below_step (by repeat (first | (with_reducible first | exact HB.out | apply Ba10 | apply Bn10 | apply Bd10) | exact HB.out)) hb); clear HB; have HO348 := n0_; have HO350 := n1_; have HB := n2_; clear n0_ n1_ n2_; (try clear hb); (try clear hb2); (try clear hk); (try clear hi); (try clear ho0); (try clear ho1); obtain ⟨Ao10, co10, eo10, _⟩ := Kd.Q_slice HO348.out; subst eo10) | ((with_reducible refine gate_callee (f := 33) rfl ?_); refine goesL_ (some 24) rfl rfl Try.func33 (by kernel_rfl) rfl #[.slice Ao10 t345.length co10] rfl (by (try simp only [List.map_toArray, List.map_cons, List.map_nil]); first | done | rfl | (simp only [List.length_drop, List.length_take]; rfl)) ?_; (with_reducible refine (impl_NotOf.calls k (fun k_ => some k_ = (.slice Ao10 t345.length co10 : Value).ownBlock) _ _ t345 t351 _ ?side1 A5.out).mono ?_); (case side1 => exact Kd.Q_V (Kd.Q_tight rfl (Kd.Q_apart' (HO348.out) (Kd.R_typed HO350.out) (by decide)))); rintro e w11 ⟨v352, rfl, ho0, hb⟩; refine ⟨_, rfl, ?_⟩; have n0_ := Am10 (Kd.Q_elder' (by (with_reducible repeat (first | apply Qa10 | apply Qn10 | apply Qd10)); exact HO348.out) (Kd.R_base ho0) hb); have n3_ := Am10 (below_step (by repeat (first | (with_reducible first | exact HB.out | apply Ba10 | apply Bn10 | apply Bd10) | exact HB.out)) hb); (try clear HO350); clear HO348; clear HB; have HO348 := n0_; have HB := n3_; clear n0_ n3_; (try clear hb); (try clear hb2); (try clear hk); (try clear hi); (try clear ho0)) | ((with_reducible refine gate_callee (f := 38) rfl ?_); refine goesL_ (some 26) rfl rfl Try.func38 (by kernel_rfl) rfl #[.slice Ao10 t345.length co10] rfl (by (try simp only [List.map_toArray, List.map_cons, List.map_nil]); first | done | rfl | (simp only [List.length_drop, List.length_take]; rfl)) ?_; (with_reducible refine (impl_IsFormula.calls k _ _ t345 t354 _ ?side1 ?side2 A6.out).mono ?_); (case side1 => repeat (first | exact (Qr10 HO348.out).2.2 | (with_reducible refine Ca10 ?_ _) | (with_reducible refine Cn10 ?_ _) | (with_reducible refine Cd10 ?_))); (case side2 => exact (Qr10 HO348.out).2.1); rintro e w12 ⟨rfl, hb⟩; refine ⟨_, rfl, ?_⟩; have n0_ := Am10 (Kd.Q_below (by (with_reducible repeat (first | apply Qa10 | apply Qn10 | apply Qd10)); exact HO348.out) hb); have n3_ := Am10 (below_step (by repeat (first | (with_reducible first | exact HB.out | apply Ba10 | apply Bn10 | apply Bd10) | exact HB.out)) hb); (try clear HO350); (try clear HO353); clear HO348; clear HB; have HO348 := n0_; have HB := n3_; clear n0_ n3_; (try clear hb); (try clear hb2); (try clear hk); (try clear hi)) | ((with_reducible refine gate_callee (f := 39) rfl ?_); refine goesL_ (some 28) rfl rfl Try.func39 (by kernel_rfl) rfl #[.slice Ao10 t345.length co10] rfl (by (try simp only [List.map_toArray, List.map_cons, List.map_nil]); first | done | rfl | (simp only [List.length_drop, List.length_take]; rfl)) ?_; (with_reducible refine (spec_IsFormula.calls k _ _ t345 t355 _ ?side1 ?side2 A7.out).mono ?_); (case side1 => repeat (first | exact (Qr10 HO348.out).2.2 | (with_reducible refine Ca10 ?_ _) | (with_reducible refine Cn10 ?_ _) | (with_reducible refine Cd10 ?_))); (case side2 => exact (Qr10 HO348.out).2.1); rintro e w' ⟨rfl, ⟨nd, rfl⟩⟩; refine ⟨_, rfl, ?_⟩))
   all_goals go_ret
   all_goals exact ⟨by first | rfl | (simp [errW_none, errW_some] <;> rfl) | (simp [*, errW_none, errW_some] <;> rfl), by repeat (first | (with_reducible first | exact HB.out | apply Ba10 | apply Bn10 | apply Bd10) | exact HB.out)⟩
  ·rw [if_neg c8] at H
   have c8b0 : (t354 != t355) = false := by simpa using c8
   (try (have c8b1 : decide (t354 = t355) = true := by simpa using c8))
   (try (have c8b2 : (t354 == t355) = true := by simpa using c8))
   clear c8
   have HC13 := Am10 H
   clear H
   go_enter Try.func10, Try.ntmps10
   go_upto_region 7 with (first | ((with_reducible refine gate_callee (f := 31) rfl ?_); refine goesL_ (some 17) rfl rfl Try.func31 (by kernel_rfl) rfl #[.slice A0 l0.length c0] rfl (by (try simp only [List.map_toArray, List.map_cons, List.map_nil]); first | done | rfl | (simp only [List.length_drop, List.length_take]; rfl)) ?_; (with_reducible refine (laws_big.calls _ _ l0 false _ ?side1 ?side2 A2.out).mono ?_); (case side1 => repeat (first | exact HR0.out | (with_reducible refine Ca10 ?_ _) | (with_reducible refine Cn10 ?_ _) | (with_reducible refine Cd10 ?_))); (case side2 => exact HC0.out); rintro e w' ⟨rfl, ⟨nd, rfl⟩⟩; refine ⟨_, rfl, ?_⟩) | ((with_reducible refine gate_callee (f := 37) rfl ?_); refine goesL_ (some 20) rfl rfl Try.func37 (by kernel_rfl) rfl #[.slice A0 l0.length c0] rfl (by (try simp only [List.map_toArray, List.map_cons, List.map_nil]); first | done | rfl | (simp only [List.length_drop, List.length_take]; rfl)) ?_; (with_reducible refine (spec_DrawValue.calls k _ _ l0 t345 t346 _ ?side1 ?side2 A4.out).mono ?_); (case side1 => repeat (first | exact HR0.out | (with_reducible refine Ca10 ?_ _) | (with_reducible refine Cn10 ?_ _) | (with_reducible refine Cd10 ?_))); (case side2 => exact HC0.out); rintro e w14 ⟨v347, v349, rfl, ho0, ho1, hb⟩; refine ⟨_, rfl, ?_⟩; have n0_ := Am10 (Kd.Q_lower ho0 (below_size (by repeat (first | (with_reducible first | exact HB.out | apply Ba10 | apply Bn10 | apply Bd10) | exact HB.out)))); have n1_ := Am10 (Kd.R_lower ho1 (below_size (by repeat (first | (with_reducible first | exact HB.out | apply Ba10 | apply Bn10 | apply Bd10) | exact HB.out)))); have n2_ := Am10 (below_step (by repeat (first | (with_reducible first | exact HB.out | apply Ba10 | apply Bn10 | apply Bd10) | exact HB.out)) hb); clear HB; have HO348 := n0_; have HO350 := n1_; have HB := n2_; clear n0_ n1_ n2_; (try clear hb); (try clear hb2); (try clear hk); (try clear hi); (try clear ho0); (try clear ho1); obtain ⟨Ao15, co15, eo15, _⟩ := Kd.Q_slice HO348.out; subst eo15) | ((with_reducible refine gate_callee (f := 33) rfl ?_); refine goesL_ (some 24) rfl rfl Try.func33 (by kernel_rfl) rfl #[.slice Ao15 t345.length co15] rfl (by (try simp only [List.map_toArray, List.map_cons, List.map_nil]); first | done | rfl | (simp only [List.length_drop, List.length_take]; rfl)) ?_; (with_reducible refine (impl_NotOf.calls k (fun k_ => some k_ = (.slice Ao15 t345.length co15 : Value).ownBlock) _ _ t345 t351 _ ?side1 A5.out).mono ?_); (case side1 => exact Kd.Q_V (Kd.Q_tight rfl (Kd.Q_apart' (HO348.out) (Kd.R_typed HO350.out) (by decide)))); rintro e w16 ⟨v352, rfl, ho0, hb⟩; refine ⟨_, rfl, ?_⟩; have n0_ := Am10 (Kd.Q_elder' (by (with_reducible repeat (first | apply Qa10 | apply Qn10 | apply Qd10)); exact HO348.out) (Kd.R_base ho0) hb); have n1_ := Am10 (Kd.R_below (by (with_reducible repeat (first | apply Ra10 | apply Rn10 | apply Rd10)); exact HO350.out) hb); have n2_ := Am10 (Kd.R_lower (Kd.R_new' (Kd.R_mono (ok' := fun k_ => True) ho0 (fun _ hk_ => trivial)) (Kd.Q_lt (by (with_reducible repeat (first | apply Qa10 | apply Qn10 | apply Qd10)); exact HO348.out))) (below_size (by repeat (first | (with_reducible first | exact HB.out | apply Ba10 | apply Bn10 | apply Bd10) | exact HB.out)))); have n3_ := Am10 (below_step (by repeat (first | (with_reducible first | exact HB.out | apply Ba10 | apply Bn10 | apply Bd10) | exact HB.out)) hb); clear HO348; clear HO350; clear HB; have HO348 := n0_; have HO350 := n1_; have HO353 := n2_; have HB := n3_; clear n0_ n1_ n2_ n3_; (try clear hb); (try clear hb2); (try clear hk); (try clear hi); (try clear ho0)) | ((with_reducible refine gate_callee (f := 38) rfl ?_); refine goesL_ (some 26) rfl rfl Try.func38 (by kernel_rfl) rfl #[.slice Ao15 t345.length co15] rfl (by (try simp only [List.map_toArray, List.map_cons, List.map_nil]); first | done | rfl | (simp only [List.length_drop, List.length_take]; rfl)) ?_; (with_reducible refine (impl_IsFormula.calls k _ _ t345 t354 _ ?side1 ?side2 A6.out).mono ?_); (case side1 => repeat (first | exact (Qr10 HO348.out).2.2 | (with_reducible refine Ca10 ?_ _) | (with_reducible refine Cn10 ?_ _) | (with_reducible refine Cd10 ?_))); (case side2 => exact (Qr10 HO348.out).2.1); rintro e w17 ⟨rfl, hb⟩; refine ⟨_, rfl, ?_⟩; have n0_ := Am10 (Kd.Q_below (by (with_reducible repeat (first | apply Qa10 | apply Qn10 | apply Qd10)); exact HO348.out) hb); have n1_ := Am10 (Kd.R_below (by (with_reducible repeat (first | apply Ra10 | apply Rn10 | apply Rd10)); exact HO350.out) hb); have n2_ := Am10 (Kd.R_below (by (with_reducible repeat (first | apply Ra10 | apply Rn10 | apply Rd10)); exact HO353.out) hb); have n3_ := Am10 (below_step (by repeat (first | (with_reducible first | exact HB.out | apply Ba10 | apply Bn10 | apply Bd10) | exact HB.out)) hb); clear HO348; clear HO350; clear HO353; clear HB; have HO348 := n0_; have HO350 := n1_; have HO353 := n2_; have HB := n3_; clear n0_ n1_ n2_ n3_; (try clear hb); (try clear hb2); (try clear hk); (try clear hi)) | ((with_reducible refine gate_callee (f := 39) rfl ?_); refine goesL_ (some 28) rfl rfl Try.func39 (by kernel_rfl) rfl #[.slice Ao15 t345.length co15] rfl (by (try simp only [List.map_toArray, List.map_cons, List.map_nil]); first | done | rfl | (simp only [List.length_drop, List.length_take]; rfl)) ?_; (with_reducible refine (spec_IsFormula.calls k _ _ t345 t355 _ ?side1 ?side2 A7.out).mono ?_); (case side1 => repeat (first | exact (Qr10 HO348.out).2.2 | (with_reducible refine Ca10 ?_ _) | (with_reducible refine Cn10 ?_ _) | (with_reducible refine Cd10 ?_))); (case side2 => exact (Qr10 HO348.out).2.1); rintro e w' ⟨rfl, ⟨nd, rfl⟩⟩; refine ⟨_, rfl, ?_⟩))
   (try simp only [Act.put, List.setIfInBounds_toArray, List.set_cons_zero, List.set_cons_succ])
   go_cut [49] (fun v49 wc => ∃ (kq : Nat) (x49_12 : Bool), v49 = .bool x49_12 ∧ Aside0 (laws_FnFormulas.j0 kq l0 t345 t346 x49_12 = some r) ∧ Aside0 (kq ≤ k) ∧ Aside0 (Kd.Q (Kd.int .i64) 3 wc w.heap.size (fun _ => True) (.slice Ao15 t345.length co15) t345) ∧ Aside0 (Kd.R Kd.bool 4 wc w.heap.size (fun _ => True) v349 t346) ∧ Aside0 (Below w.heap.size w wc))
   case first =>
    have H := HC13.out
    clear HC13
    by_cases c18 : (t351.length : Int) > 0
    ·rw [if_pos c18] at H
     have c18b0 : decide (0 < (t351.length : Int)) = true := decide_eq_true c18
     have c18b1 : decide (0 < t351.length) = true := decide_eq_true (by omega)
     clear c18
     (first | rw [c18b0] | (simp only [i64_w, i32_w]; rw [c18b0]) | rw [c18b1] | skip)
     replace H := Option.bind_eq_some_iff.mp H
     obtain ⟨t356, A190, H⟩ := H
     replace H : ((impl_Value.f k t345 t346).bind fun t357 => (if (t356 == t357) = true then (laws_FnFormulas.j0 k l0 t345 t346 true) else ((impl_IsFormula.f k t345).bind fun t358 => ((impl_FormulaText.f k t345).bind fun t359 => (laws_FnFormulas.j0 k l0 t345 t346 (t358 != (t359.toList != ([] : List UInt8)))))))) = some r := H
     have A19 := Am10 A190
     clear A190
     replace H := Option.bind_eq_some_iff.mp H
     obtain ⟨t357, A200, H⟩ := H
     replace H : (if (t356 == t357) = true then (laws_FnFormulas.j0 k l0 t345 t346 true) else ((impl_IsFormula.f k t345).bind fun t358 => ((impl_FormulaText.f k t345).bind fun t359 => (laws_FnFormulas.j0 k l0 t345 t346 (t358 != (t359.toList != ([] : List UInt8))))))) = some r := H
     have A20 := Am10 A200
     clear A200
     by_cases c21 : (t356 == t357) = true
     ·rw [if_pos c21] at H
      have c21b0 : (t356 == t357) = true := c21
      (try (have c21b1 : decide (t356 = t357) = true := by simpa using c21))
      (try (have c21b2 : (t356 == t357) = true := by simpa using c21))
      clear c21
      have H' := Am10 H
      clear H
      obtain ⟨Ao22, co22, eo22⟩ := Kd.R_slice HO353.out
      subst eo22
      obtain ⟨Ao23, co23, eo23⟩ := Kd.R_slice HO350.out
      subst eo23
      go_wp2_with (first | (go_at_call 40; (with_reducible refine (impl_Value.calls k _ _ t351 _ _ t346 t356 _ ?side1 ?side2 ?side3 ?side4 A19.out).mono ?_); (case side1 => repeat (first | exact (Rr10 HO353.out).2.2 | (with_reducible refine Ca10 ?_ _) | (with_reducible refine Cn10 ?_ _) | (with_reducible refine Cd10 ?_))); (case side2 => exact (Rr10 HO353.out).2.1); (case side3 => repeat (first | exact (Rr10 HO350.out).2.2 | (with_reducible refine Ca10 ?_ _) | (with_reducible refine Cn10 ?_ _) | (with_reducible refine Cd10 ?_))); (case side4 => exact (Rr10 HO350.out).2.1); rintro e w24 ⟨rfl, hb⟩; have n0_ := Am10 (Kd.Q_below (by (with_reducible repeat (first | apply Qa10 | apply Qn10 | apply Qd10)); exact HO348.out) hb); have n1_ := Am10 (Kd.R_below (by (with_reducible repeat (first | apply Ra10 | apply Rn10 | apply Rd10)); exact HO350.out) hb); have n3_ := Am10 (below_step (by repeat (first | (with_reducible first | exact HB.out | apply Ba10 | apply Bn10 | apply Bd10) | exact HB.out)) hb); (try clear HO353); clear HO348; clear HO350; clear HB; have HO348 := n0_; have HO350 := n1_; have HB := n3_; clear n0_ n1_ n3_; (try clear hb); (try clear hb2); (try clear hk); (try clear hi)) | (go_at_call 40; (with_reducible refine (impl_Value.calls k _ _ t345 _ _ t346 t357 _ ?side1 ?side2 ?side3 ?side4 A20.out).mono ?_); (case side1 => repeat (first | exact (Qr10 HO348.out).2.2 | (with_reducible refine Ca10 ?_ _) | (with_reducible refine Cn10 ?_ _) | (with_reducible refine Cd10 ?_))); (case side2 => exact (Qr10 HO348.out).2.1); (case side3 => repeat (first | exact (Rr10 HO350.out).2.2 | (with_reducible refine Ca10 ?_ _) | (with_reducible refine Cn10 ?_ _) | (with_reducible refine Cd10 ?_))); (case side4 => exact (Rr10 HO350.out).2.1); rintro e w25 ⟨rfl, hb⟩; have n0_ := Am10 (Kd.Q_below (by (with_reducible repeat (first | apply Qa10 | apply Qn10 | apply Qd10)); exact HO348.out) hb); have n1_ := Am10 (Kd.R_below (by (with_reducible repeat (first | apply Ra10 | apply Rn10 | apply Rd10)); exact HO350.out) hb); have n3_ := Am10 (below_step (by repeat (first | (with_reducible first | exact HB.out | apply Ba10 | apply Bn10 | apply Bd10) | exact HB.out)) hb); (try clear HO353); clear HO348; clear HO350; clear HB; have HO348 := n0_; have HO350 := n1_; have HB := n3_; clear n0_ n1_ n3_; (try clear hb); (try clear hb2); (try clear hk); (try clear hi)))
      go_meet
      case rel => exact ⟨_, (true), (by first | rfl | (simp; done) | (simp [*]; done)), H', ⟨by first | omega | exact Nat.le_refl _⟩, ⟨by (with_reducible repeat (first | apply Qa10 | apply Qn10 | apply Qd10)); exact Kd.Q_mono HO348.out (fun _ hk => trivial)⟩, ⟨by (with_reducible repeat (first | apply Ra10 | apply Rn10 | apply Rd10)); exact HO350.out⟩, ⟨by repeat (first | (with_reducible first | exact HB.out | apply Ba10 | apply Bn10 | apply Bd10) | exact HB.out)⟩⟩
     ·rw [if_neg c21] at H
      have c21b0 : (t356 == t357) = false := by simpa using c21
      (try (have c21b1 : decide (t356 = t357) = false := by simpa using c21))
      (try (have c21b2 : (t356 == t357) = false := by simpa using c21))
      (try (have c21b3 : ¬ (t356 = t357) := by simpa using c21))
      clear c21
      replace H := Option.bind_eq_some_iff.mp H
      obtain ⟨t358, A260, H⟩ := H
      replace H : ((impl_FormulaText.f k t345).bind fun t359 => (laws_FnFormulas.j0 k l0 t345 t346 (t358 != (t359.toList != ([] : List UInt8))))) = some r := H
      have A26 := Am10 A260
      clear A260
      replace H := Option.bind_eq_some_iff.mp H
      obtain ⟨t359, A270, H⟩ := H
      replace H : (laws_FnFormulas.j0 k l0 t345 t346 (t358 != (t359.toList != ([] : List UInt8)))) = some r := H
      have A27 := Am10 A270
      clear A270
      have H' := Am10 H
      clear H
      obtain ⟨Ao28, co28, eo28⟩ := Kd.R_slice HO353.out
      subst eo28
      obtain ⟨Ao29, co29, eo29⟩ := Kd.R_slice HO350.out
      subst eo29
      go_wp2_with (first | (go_at_call 40; (with_reducible refine (impl_Value.calls k _ _ t351 _ _ t346 t356 _ ?side1 ?side2 ?side3 ?side4 A19.out).mono ?_); (case side1 => repeat (first | exact (Rr10 HO353.out).2.2 | (with_reducible refine Ca10 ?_ _) | (with_reducible refine Cn10 ?_ _) | (with_reducible refine Cd10 ?_))); (case side2 => exact (Rr10 HO353.out).2.1); (case side3 => repeat (first | exact (Rr10 HO350.out).2.2 | (with_reducible refine Ca10 ?_ _) | (with_reducible refine Cn10 ?_ _) | (with_reducible refine Cd10 ?_))); (case side4 => exact (Rr10 HO350.out).2.1); rintro e w30 ⟨rfl, hb⟩; have n0_ := Am10 (Kd.Q_below (by (with_reducible repeat (first | apply Qa10 | apply Qn10 | apply Qd10)); exact HO348.out) hb); have n1_ := Am10 (Kd.R_below (by (with_reducible repeat (first | apply Ra10 | apply Rn10 | apply Rd10)); exact HO350.out) hb); have n3_ := Am10 (below_step (by repeat (first | (with_reducible first | exact HB.out | apply Ba10 | apply Bn10 | apply Bd10) | exact HB.out)) hb); (try clear HO353); clear HO348; clear HO350; clear HB; have HO348 := n0_; have HO350 := n1_; have HB := n3_; clear n0_ n1_ n3_; (try clear hb); (try clear hb2); (try clear hk); (try clear hi)) | (go_at_call 40; (with_reducible refine (impl_Value.calls k _ _ t345 _ _ t346 t357 _ ?side1 ?side2 ?side3 ?side4 A20.out).mono ?_); (case side1 => repeat (first | exact (Qr10 HO348.out).2.2 | (with_reducible refine Ca10 ?_ _) | (with_reducible refine Cn10 ?_ _) | (with_reducible refine Cd10 ?_))); (case side2 => exact (Qr10 HO348.out).2.1); (case side3 => repeat (first | exact (Rr10 HO350.out).2.2 | (with_reducible refine Ca10 ?_ _) | (with_reducible refine Cn10 ?_ _) | (with_reducible refine Cd10 ?_))); (case side4 => exact (Rr10 HO350.out).2.1); rintro e w31 ⟨rfl, hb⟩; have n0_ := Am10 (Kd.Q_below (by (with_reducible repeat (first | apply Qa10 | apply Qn10 | apply Qd10)); exact HO348.out) hb); have n1_ := Am10 (Kd.R_below (by (with_reducible repeat (first | apply Ra10 | apply Rn10 | apply Rd10)); exact HO350.out) hb); have n3_ := Am10 (below_step (by repeat (first | (with_reducible first | exact HB.out | apply Ba10 | apply Bn10 | apply Bd10) | exact HB.out)) hb); (try clear HO353); clear HO348; clear HO350; clear HB; have HO348 := n0_; have HO350 := n1_; have HB := n3_; clear n0_ n1_ n3_; (try clear hb); (try clear hb2); (try clear hk); (try clear hi)) | (go_at_call 38; (with_reducible refine (impl_IsFormula.calls k _ _ t345 t358 _ ?side1 ?side2 A26.out).mono ?_); (case side1 => repeat (first | exact (Qr10 HO348.out).2.2 | (with_reducible refine Ca10 ?_ _) | (with_reducible refine Cn10 ?_ _) | (with_reducible refine Cd10 ?_))); (case side2 => exact (Qr10 HO348.out).2.1); rintro e w32 ⟨rfl, hb⟩; have n0_ := Am10 (Kd.Q_below (by (with_reducible repeat (first | apply Qa10 | apply Qn10 | apply Qd10)); exact HO348.out) hb); have n1_ := Am10 (Kd.R_below (by (with_reducible repeat (first | apply Ra10 | apply Rn10 | apply Rd10)); exact HO350.out) hb); have n3_ := Am10 (below_step (by repeat (first | (with_reducible first | exact HB.out | apply Ba10 | apply Bn10 | apply Bd10) | exact HB.out)) hb); (try clear HO353); clear HO348; clear HO350; clear HB; have HO348 := n0_; have HO350 := n1_; have HB := n3_; clear n0_ n1_ n3_; (try clear hb); (try clear hb2); (try clear hk); (try clear hi)) | (go_at_call 41; (with_reducible refine (impl_FormulaText.calls k _ _ t345 t359 _ ?side1 ?side2 A27.out).mono ?_); (case side1 => repeat (first | exact (Qr10 HO348.out).2.2 | (with_reducible refine Ca10 ?_ _) | (with_reducible refine Cn10 ?_ _) | (with_reducible refine Cd10 ?_))); (case side2 => exact (Qr10 HO348.out).2.1); rintro e w33 ⟨rfl, hb⟩; have n0_ := Am10 (Kd.Q_below (by (with_reducible repeat (first | apply Qa10 | apply Qn10 | apply Qd10)); exact HO348.out) hb); have n1_ := Am10 (Kd.R_below (by (with_reducible repeat (first | apply Ra10 | apply Rn10 | apply Rd10)); exact HO350.out) hb); have n3_ := Am10 (below_step (by repeat (first | (with_reducible first | exact HB.out | apply Ba10 | apply Bn10 | apply Bd10) | exact HB.out)) hb); (try clear HO353); clear HO348; clear HO350; clear HB; have HO348 := n0_; have HO350 := n1_; have HB := n3_; clear n0_ n1_ n3_; (try clear hb); (try clear hb2); (try clear hk); (try clear hi)))
      go_meet
      case rel => exact ⟨_, ((t358 != (t359.toList != ([] : List UInt8)))), (by first | rfl | (simp; done) | (simp [*]; done) | (simp; cases t359.toList <;> cases t358 <;> rfl)), H', ⟨by first | omega | exact Nat.le_refl _⟩, ⟨by (with_reducible repeat (first | apply Qa10 | apply Qn10 | apply Qd10)); exact Kd.Q_mono HO348.out (fun _ hk => trivial)⟩, ⟨by (with_reducible repeat (first | apply Ra10 | apply Rn10 | apply Rd10)); exact HO350.out⟩, ⟨by repeat (first | (with_reducible first | exact HB.out | apply Ba10 | apply Bn10 | apply Bd10) | exact HB.out)⟩⟩
    ·rw [if_neg c18] at H
     have c18b0 : decide (0 < (t351.length : Int)) = false := decide_eq_false c18
     have c18b1 : decide (0 < t351.length) = false := decide_eq_false (by omega)
     clear c18
     (first | rw [c18b0] | (simp only [i64_w, i32_w]; rw [c18b0]) | rw [c18b1] | skip)
     replace H := Option.bind_eq_some_iff.mp H
     obtain ⟨t360, A340, H⟩ := H
     replace H : ((impl_FormulaText.f k t345).bind fun t361 => (laws_FnFormulas.j0 k l0 t345 t346 (t360 != (t361.toList != ([] : List UInt8))))) = some r := H
     have A34 := Am10 A340
     clear A340
     replace H := Option.bind_eq_some_iff.mp H
     obtain ⟨t361, A350, H⟩ := H
     replace H : (laws_FnFormulas.j0 k l0 t345 t346 (t360 != (t361.toList != ([] : List UInt8)))) = some r := H
     have A35 := Am10 A350
     clear A350
     have H' := Am10 H
     clear H
     obtain ⟨Ao36, co36, eo36⟩ := Kd.R_slice HO353.out
     subst eo36
     go_wp2_with (first | (go_at_call 38; (with_reducible refine (impl_IsFormula.calls k _ _ t345 t360 _ ?side1 ?side2 A34.out).mono ?_); (case side1 => repeat (first | exact (Qr10 HO348.out).2.2 | (with_reducible refine Ca10 ?_ _) | (with_reducible refine Cn10 ?_ _) | (with_reducible refine Cd10 ?_))); (case side2 => exact (Qr10 HO348.out).2.1); rintro e w37 ⟨rfl, hb⟩; have n0_ := Am10 (Kd.Q_below (by (with_reducible repeat (first | apply Qa10 | apply Qn10 | apply Qd10)); exact HO348.out) hb); have n1_ := Am10 (Kd.R_below (by (with_reducible repeat (first | apply Ra10 | apply Rn10 | apply Rd10)); exact HO350.out) hb); have n3_ := Am10 (below_step (by repeat (first | (with_reducible first | exact HB.out | apply Ba10 | apply Bn10 | apply Bd10) | exact HB.out)) hb); (try clear HO353); clear HO348; clear HO350; clear HB; have HO348 := n0_; have HO350 := n1_; have HB := n3_; clear n0_ n1_ n3_; (try clear hb); (try clear hb2); (try clear hk); (try clear hi)) | (go_at_call 41; (with_reducible refine (impl_FormulaText.calls k _ _ t345 t361 _ ?side1 ?side2 A35.out).mono ?_); (case side1 => repeat (first | exact (Qr10 HO348.out).2.2 | (with_reducible refine Ca10 ?_ _) | (with_reducible refine Cn10 ?_ _) | (with_reducible refine Cd10 ?_))); (case side2 => exact (Qr10 HO348.out).2.1); rintro e w38 ⟨rfl, hb⟩; have n0_ := Am10 (Kd.Q_below (by (with_reducible repeat (first | apply Qa10 | apply Qn10 | apply Qd10)); exact HO348.out) hb); have n1_ := Am10 (Kd.R_below (by (with_reducible repeat (first | apply Ra10 | apply Rn10 | apply Rd10)); exact HO350.out) hb); have n3_ := Am10 (below_step (by repeat (first | (with_reducible first | exact HB.out | apply Ba10 | apply Bn10 | apply Bd10) | exact HB.out)) hb); (try clear HO353); clear HO348; clear HO350; clear HB; have HO348 := n0_; have HO350 := n1_; have HB := n3_; clear n0_ n1_ n3_; (try clear hb); (try clear hb2); (try clear hk); (try clear hi)))
     go_meet
     case rel => exact ⟨_, ((t360 != (t361.toList != ([] : List UInt8)))), (by first | rfl | (simp; done) | (simp [*]; done) | (simp; cases t361.toList <;> cases t360 <;> rfl)), H', ⟨by first | omega | exact Nat.le_refl _⟩, ⟨by (with_reducible repeat (first | apply Qa10 | apply Qn10 | apply Qd10)); exact Kd.Q_mono HO348.out (fun _ hk => trivial)⟩, ⟨by (with_reducible repeat (first | apply Ra10 | apply Rn10 | apply Rd10)); exact HO350.out⟩, ⟨by repeat (first | (with_reducible first | exact HB.out | apply Ba10 | apply Bn10 | apply Bd10) | exact HB.out)⟩⟩
   case rest =>
    clear HC13
    try clear c1
    try clear c2
    try clear p2
    try clear c3
    try clear c8
    try clear c8b0
    try clear c8b1
    try clear c8b2
    try clear c10
    try clear c18
    try clear c18b0
    try clear c18b1
    try clear c21
    try clear c21b0
    try clear c21b1
    try clear c21b2
    try clear c31
    try clear c33
    try clear c37
    try clear c38
    obtain ⟨kq, x49_12, rfl, HA, HJ12, HO_3, HO_4, HB⟩ := hcut
    cases kq with
    | zero => exact absurd HA.out (by simp [laws_FnFormulas.j0])
    | succ kj12 =>
     have H := HA.out
     clear HA
     simp only [laws_FnFormulas.j0] at H
     by_cases c39 : x49_12 = true
     ·subst c39
      have H1 : (some false) = some r := by rw [if_pos rfl] at H; exact H
      clear H
      have H := H1
      clear H1
      obtain rfl := Option.some.inj H
      go_wp2
      all_goals go_ret
      all_goals exact ⟨by first | rfl | (simp [errW_none, errW_some] <;> rfl) | (simp [*, errW_none, errW_some] <;> rfl), by repeat (first | (with_reducible first | exact HB.out | apply Ba10 | apply Bn10 | apply Bd10) | exact HB.out)⟩
     ·replace c39 := Bool.eq_false_iff.mpr c39
      subst c39
      have H1 : ((spec_DrawJoin.f kj12 l0).bind fun bt362 => ((impl_Join.f kj12 bt362.1 bt362.2.1 bt362.2.2).bind fun t369 => (if (t369.length : Int) > 0 then ((impl_Value.f kj12 bt362.1 t346).bind fun t372 => ((impl_Value.f kj12 bt362.2.1 t346).bind fun t373 => ((impl_Value.f kj12 t369 t346).bind fun t374 => (if bt362.2.2 = (-2) then (if t372 = true then (if (t374 != t373) = true then (some false) else (if bt362.2.2 = (-3) then (if (t374 != true) = true then (some false) else (if bt362.2.2 = (-4) then (laws_FnFormulas.j1 kj12 t345 t346) else (laws_FnFormulas.j1 kj12 t345 t346))) else (if bt362.2.2 = (-4) then (laws_FnFormulas.j1 kj12 t345 t346) else (laws_FnFormulas.j1 kj12 t345 t346)))) else (if (t374 != false) = true then (some false) else (if bt362.2.2 = (-3) then (if (t374 != t373) = true then (some false) else (if bt362.2.2 = (-4) then (if (t374 != true) = true then (some false) else (laws_FnFormulas.j1 kj12 t345 t346)) else (laws_FnFormulas.j1 kj12 t345 t346))) else (if bt362.2.2 = (-4) then (if (t374 != true) = true then (some false) else (laws_FnFormulas.j1 kj12 t345 t346)) else (laws_FnFormulas.j1 kj12 t345 t346))))) else (if bt362.2.2 = (-3) then (if t372 = true then (if (t374 != true) = true then (some false) else (if bt362.2.2 = (-4) then (if (t374 != t373) = true then (some false) else (laws_FnFormulas.j1 kj12 t345 t346)) else (laws_FnFormulas.j1 kj12 t345 t346))) else (if (t374 != t373) = true then (some false) else (if bt362.2.2 = (-4) then (if (t374 != true) = true then (some false) else (laws_FnFormulas.j1 kj12 t345 t346)) else (laws_FnFormulas.j1 kj12 t345 t346)))) else (if bt362.2.2 = (-4) then (if t372 = true then (if (t374 != t373) = true then (some false) else (laws_FnFormulas.j1 kj12 t345 t346)) else (if (t374 != true) = true then (some false) else (laws_FnFormulas.j1 kj12 t345 t346))) else (laws_FnFormulas.j1 kj12 t345 t346))))))) else (laws_FnFormulas.j1 kj12 t345 t346)))) = some r := by rw [if_neg (show ¬ (false = true) by decide)] at H; exact H
      clear H
      have H := H1
      clear H1
      replace H := Option.bind_eq_some_iff.mp H
      obtain ⟨⟨t362, t363, t364⟩, A400, H⟩ := H
      replace H : ((impl_Join.f kj12 t362 t363 t364).bind fun t369 => (if (t369.length : Int) > 0 then ((impl_Value.f kj12 t362 t346).bind fun t372 => ((impl_Value.f kj12 t363 t346).bind fun t373 => ((impl_Value.f kj12 t369 t346).bind fun t374 => (if t364 = (-2) then (if t372 = true then (if (t374 != t373) = true then (some false) else (if t364 = (-3) then (if (t374 != true) = true then (some false) else (if t364 = (-4) then (laws_FnFormulas.j1 kj12 t345 t346) else (laws_FnFormulas.j1 kj12 t345 t346))) else (if t364 = (-4) then (laws_FnFormulas.j1 kj12 t345 t346) else (laws_FnFormulas.j1 kj12 t345 t346)))) else (if (t374 != false) = true then (some false) else (if t364 = (-3) then (if (t374 != t373) = true then (some false) else (if t364 = (-4) then (if (t374 != true) = true then (some false) else (laws_FnFormulas.j1 kj12 t345 t346)) else (laws_FnFormulas.j1 kj12 t345 t346))) else (if t364 = (-4) then (if (t374 != true) = true then (some false) else (laws_FnFormulas.j1 kj12 t345 t346)) else (laws_FnFormulas.j1 kj12 t345 t346))))) else (if t364 = (-3) then (if t372 = true then (if (t374 != true) = true then (some false) else (if t364 = (-4) then (if (t374 != t373) = true then (some false) else (laws_FnFormulas.j1 kj12 t345 t346)) else (laws_FnFormulas.j1 kj12 t345 t346))) else (if (t374 != t373) = true then (some false) else (if t364 = (-4) then (if (t374 != true) = true then (some false) else (laws_FnFormulas.j1 kj12 t345 t346)) else (laws_FnFormulas.j1 kj12 t345 t346)))) else (if t364 = (-4) then (if t372 = true then (if (t374 != t373) = true then (some false) else (laws_FnFormulas.j1 kj12 t345 t346)) else (if (t374 != true) = true then (some false) else (laws_FnFormulas.j1 kj12 t345 t346))) else (laws_FnFormulas.j1 kj12 t345 t346))))))) else (laws_FnFormulas.j1 kj12 t345 t346))) = some r := H
      have A40 := Am10 A400
      clear A400
      replace H := Option.bind_eq_some_iff.mp H
      obtain ⟨t369, A410, H⟩ := H
      replace H : (if (t369.length : Int) > 0 then ((impl_Value.f kj12 t362 t346).bind fun t372 => ((impl_Value.f kj12 t363 t346).bind fun t373 => ((impl_Value.f kj12 t369 t346).bind fun t374 => (if t364 = (-2) then (if t372 = true then (if (t374 != t373) = true then (some false) else (if t364 = (-3) then (if (t374 != true) = true then (some false) else (if t364 = (-4) then (laws_FnFormulas.j1 kj12 t345 t346) else (laws_FnFormulas.j1 kj12 t345 t346))) else (if t364 = (-4) then (laws_FnFormulas.j1 kj12 t345 t346) else (laws_FnFormulas.j1 kj12 t345 t346)))) else (if (t374 != false) = true then (some false) else (if t364 = (-3) then (if (t374 != t373) = true then (some false) else (if t364 = (-4) then (if (t374 != true) = true then (some false) else (laws_FnFormulas.j1 kj12 t345 t346)) else (laws_FnFormulas.j1 kj12 t345 t346))) else (if t364 = (-4) then (if (t374 != true) = true then (some false) else (laws_FnFormulas.j1 kj12 t345 t346)) else (laws_FnFormulas.j1 kj12 t345 t346))))) else (if t364 = (-3) then (if t372 = true then (if (t374 != true) = true then (some false) else (if t364 = (-4) then (if (t374 != t373) = true then (some false) else (laws_FnFormulas.j1 kj12 t345 t346)) else (laws_FnFormulas.j1 kj12 t345 t346))) else (if (t374 != t373) = true then (some false) else (if t364 = (-4) then (if (t374 != true) = true then (some false) else (laws_FnFormulas.j1 kj12 t345 t346)) else (laws_FnFormulas.j1 kj12 t345 t346)))) else (if t364 = (-4) then (if t372 = true then (if (t374 != t373) = true then (some false) else (laws_FnFormulas.j1 kj12 t345 t346)) else (if (t374 != true) = true then (some false) else (laws_FnFormulas.j1 kj12 t345 t346))) else (laws_FnFormulas.j1 kj12 t345 t346))))))) else (laws_FnFormulas.j1 kj12 t345 t346)) = some r := H
      have A41 := Am10 A410
      clear A410
      have HC42 := Am10 H
      clear H
      go_upto_if 62 with (first | ((with_reducible refine gate_callee (f := 42) rfl ?_); refine goesL_ (some 52) rfl rfl Try.func42 (by kernel_rfl) rfl #[.slice A0 l0.length c0] rfl (by (try simp only [List.map_toArray, List.map_cons, List.map_nil]); first | done | rfl | (simp only [List.length_drop, List.length_take]; rfl)) ?_; (with_reducible refine (spec_DrawJoin.calls kj12 _ _ l0 t362 t363 t364 _ ?side1 ?side2 A40.out).mono ?_); (case side1 => repeat (first | exact (Kd.C_below HR0.out HB.out) | (with_reducible refine Ca10 ?_ _) | (with_reducible refine Cn10 ?_ _) | (with_reducible refine Cd10 ?_))); (case side2 => exact HC0.out); rintro e w43 ⟨v365, v367, rfl, ho0, ho1, hb⟩; refine ⟨_, rfl, ?_⟩; have n0_ := Am10 (Kd.Q_mono (Kd.Q_told (Kd.Q_told (Kd.Q_old (by (with_reducible repeat (first | apply Qa10 | apply Qn10 | apply Qd10)); exact HO_3.out) hb) (Kd.Q_base ho0)) (Kd.Q_base ho1)) (fun _ h_ => h_.1)); have n1_ := Am10 (Kd.R_below (by (with_reducible repeat (first | apply Ra10 | apply Rn10 | apply Rd10)); exact HO_4.out) hb); have n2_ := Am10 (Kd.Q_lower (Kd.Q_new' ho0 (Kd.Q_lt (by (with_reducible repeat (first | apply Qa10 | apply Qn10 | apply Qd10)); exact HO_3.out))) (below_size (by repeat (first | (with_reducible first | exact HB.out | apply Ba10 | apply Bn10 | apply Bd10) | exact HB.out)))); have n3_ := Am10 (Kd.Q_lower (Kd.Q_new' ho1 (Kd.Q_lt (by (with_reducible repeat (first | apply Qa10 | apply Qn10 | apply Qd10)); exact HO_3.out))) (below_size (by repeat (first | (with_reducible first | exact HB.out | apply Ba10 | apply Bn10 | apply Bd10) | exact HB.out)))); have n4_ := Am10 (below_step (by repeat (first | (with_reducible first | exact HB.out | apply Ba10 | apply Bn10 | apply Bd10) | exact HB.out)) hb); clear HO_3; clear HO_4; clear HB; have HO_3 := n0_; have HO_4 := n1_; have HO366 := n2_; have HO368 := n3_; have HB := n4_; clear n0_ n1_ n2_ n3_ n4_; (try clear hb); (try clear hb2); (try clear hk); (try clear hi); (try clear ho0); (try clear ho1); obtain ⟨Ao44, co44, eo44, _⟩ := Kd.Q_slice HO366.out; subst eo44; obtain ⟨Ao45, co45, eo45, _⟩ := Kd.Q_slice HO368.out; subst eo45) | ((with_reducible refine gate_callee (f := 43) rfl ?_); refine goesL_ (some 59) rfl rfl Try.func43 (by kernel_rfl) rfl #[.slice Ao44 t362.length co44, .slice Ao45 t363.length co45, .int .i64 t364] rfl (by (try simp only [List.map_toArray, List.map_cons, List.map_nil]); first | done | rfl | (simp only [List.length_drop, List.length_take]; rfl)) ?_; (with_reducible refine (impl_Join.calls kj12 (fun k_ => some k_ = (.slice Ao44 t362.length co44 : Value).ownBlock) _ _ t362 (fun k_ => some k_ = (.slice Ao45 t363.length co45 : Value).ownBlock) _ _ t363 t364 t369 _ ?side1 ?side2 A41.out).mono ?_); (case side1 => exact Kd.Q_V (Kd.Q_tight rfl (Kd.Q_apart' (HO366.out) (Kd.R_typed HO_4.out) (by decide)))); (case side2 => exact Kd.Q_V (Kd.Q_tight rfl (Kd.Q_apart' (HO368.out) (Kd.R_typed HO_4.out) (by decide)))); rintro e w46 ⟨v370, rfl, ho0, hb⟩; refine ⟨_, rfl, ?_⟩; have n0_ := Am10 (Kd.Q_elder' (by (with_reducible repeat (first | apply Qa10 | apply Qn10 | apply Qd10)); exact HO_3.out) (Kd.R_base ho0) hb); have n1_ := Am10 (Kd.R_below (by (with_reducible repeat (first | apply Ra10 | apply Rn10 | apply Rd10)); exact HO_4.out) hb); have n2_ := Am10 (Kd.Q_elder' (by (with_reducible repeat (first | apply Qa10 | apply Qn10 | apply Qd10)); exact HO366.out) (Kd.R_base ho0) hb); have n3_ := Am10 (Kd.Q_elder' (by (with_reducible repeat (first | apply Qa10 | apply Qn10 | apply Qd10)); exact HO368.out) (Kd.R_base ho0) hb); have n4_ := Am10 (Kd.R_lower (Kd.R_new' (Kd.R_new' (Kd.R_new' (Kd.R_mono (ok' := fun k_ => True) ho0 (fun _ hk_ => trivial)) (Kd.Q_lt (by (with_reducible repeat (first | apply Qa10 | apply Qn10 | apply Qd10)); exact HO_3.out))) (Kd.Q_lt (by (with_reducible repeat (first | apply Qa10 | apply Qn10 | apply Qd10)); exact HO366.out))) (Kd.Q_lt (by (with_reducible repeat (first | apply Qa10 | apply Qn10 | apply Qd10)); exact HO368.out))) (below_size (by repeat (first | (with_reducible first | exact HB.out | apply Ba10 | apply Bn10 | apply Bd10) | exact HB.out)))); have n5_ := Am10 (below_step (by repeat (first | (with_reducible first | exact HB.out | apply Ba10 | apply Bn10 | apply Bd10) | exact HB.out)) hb); clear HO_3; clear HO_4; clear HO366; clear HO368; clear HB; have HO_3 := n0_; have HO_4 := n1_; have HO366 := n2_; have HO368 := n3_; have HO371 := n4_; have HB := n5_; clear n0_ n1_ n2_ n3_ n4_ n5_; (try clear hb); (try clear hb2); (try clear hk); (try clear hi); (try clear ho0); obtain ⟨Ao47, co47, eo47⟩ := Kd.R_slice HO371.out; subst eo47))
      (try simp only [Act.put, List.setIfInBounds_toArray, List.set_cons_zero, List.set_cons_succ])
      go_cut [] (fun wc => ∃ (kq : Nat), Aside0 (laws_FnFormulas.j1 kq t345 t346 = some r) ∧ Aside0 (kq ≤ kj12) ∧ Aside0 (Kd.Q (Kd.int .i64) 3 wc w.heap.size (fun _ => True) (.slice Ao15 t345.length co15) t345) ∧ Aside0 (Kd.R Kd.bool 4 wc w.heap.size (fun _ => True) v349 t346) ∧ Aside0 (Below w.heap.size w wc))
      case first =>
       have H := HC42.out
       clear HC42
       by_cases c48 : (t369.length : Int) > 0
       ·rw [if_pos c48] at H
        have c48b0 : decide (0 < (t369.length : Int)) = true := decide_eq_true c48
        have c48b1 : decide (0 < t369.length) = true := decide_eq_true (by omega)
        clear c48
        (first | rw [c48b0] | (simp only [i64_w, i32_w]; rw [c48b0]) | rw [c48b1] | skip)
        replace H := Option.bind_eq_some_iff.mp H
        obtain ⟨t372, A490, H⟩ := H
        replace H : ((impl_Value.f kj12 t363 t346).bind fun t373 => ((impl_Value.f kj12 t369 t346).bind fun t374 => (if t364 = (-2) then (if t372 = true then (if (t374 != t373) = true then (some false) else (if t364 = (-3) then (if (t374 != true) = true then (some false) else (if t364 = (-4) then (laws_FnFormulas.j1 kj12 t345 t346) else (laws_FnFormulas.j1 kj12 t345 t346))) else (if t364 = (-4) then (laws_FnFormulas.j1 kj12 t345 t346) else (laws_FnFormulas.j1 kj12 t345 t346)))) else (if (t374 != false) = true then (some false) else (if t364 = (-3) then (if (t374 != t373) = true then (some false) else (if t364 = (-4) then (if (t374 != true) = true then (some false) else (laws_FnFormulas.j1 kj12 t345 t346)) else (laws_FnFormulas.j1 kj12 t345 t346))) else (if t364 = (-4) then (if (t374 != true) = true then (some false) else (laws_FnFormulas.j1 kj12 t345 t346)) else (laws_FnFormulas.j1 kj12 t345 t346))))) else (if t364 = (-3) then (if t372 = true then (if (t374 != true) = true then (some false) else (if t364 = (-4) then (if (t374 != t373) = true then (some false) else (laws_FnFormulas.j1 kj12 t345 t346)) else (laws_FnFormulas.j1 kj12 t345 t346))) else (if (t374 != t373) = true then (some false) else (if t364 = (-4) then (if (t374 != true) = true then (some false) else (laws_FnFormulas.j1 kj12 t345 t346)) else (laws_FnFormulas.j1 kj12 t345 t346)))) else (if t364 = (-4) then (if t372 = true then (if (t374 != t373) = true then (some false) else (laws_FnFormulas.j1 kj12 t345 t346)) else (if (t374 != true) = true then (some false) else (laws_FnFormulas.j1 kj12 t345 t346))) else (laws_FnFormulas.j1 kj12 t345 t346)))))) = some r := H
        have A49 := Am10 A490
        clear A490
        replace H := Option.bind_eq_some_iff.mp H
        obtain ⟨t373, A500, H⟩ := H
        replace H : ((impl_Value.f kj12 t369 t346).bind fun t374 => (if t364 = (-2) then (if t372 = true then (if (t374 != t373) = true then (some false) else (if t364 = (-3) then (if (t374 != true) = true then (some false) else (if t364 = (-4) then (laws_FnFormulas.j1 kj12 t345 t346) else (laws_FnFormulas.j1 kj12 t345 t346))) else (if t364 = (-4) then (laws_FnFormulas.j1 kj12 t345 t346) else (laws_FnFormulas.j1 kj12 t345 t346)))) else (if (t374 != false) = true then (some false) else (if t364 = (-3) then (if (t374 != t373) = true then (some false) else (if t364 = (-4) then (if (t374 != true) = true then (some false) else (laws_FnFormulas.j1 kj12 t345 t346)) else (laws_FnFormulas.j1 kj12 t345 t346))) else (if t364 = (-4) then (if (t374 != true) = true then (some false) else (laws_FnFormulas.j1 kj12 t345 t346)) else (laws_FnFormulas.j1 kj12 t345 t346))))) else (if t364 = (-3) then (if t372 = true then (if (t374 != true) = true then (some false) else (if t364 = (-4) then (if (t374 != t373) = true then (some false) else (laws_FnFormulas.j1 kj12 t345 t346)) else (laws_FnFormulas.j1 kj12 t345 t346))) else (if (t374 != t373) = true then (some false) else (if t364 = (-4) then (if (t374 != true) = true then (some false) else (laws_FnFormulas.j1 kj12 t345 t346)) else (laws_FnFormulas.j1 kj12 t345 t346)))) else (if t364 = (-4) then (if t372 = true then (if (t374 != t373) = true then (some false) else (laws_FnFormulas.j1 kj12 t345 t346)) else (if (t374 != true) = true then (some false) else (laws_FnFormulas.j1 kj12 t345 t346))) else (laws_FnFormulas.j1 kj12 t345 t346))))) = some r := H
        have A50 := Am10 A500
        clear A500
        replace H := Option.bind_eq_some_iff.mp H
        obtain ⟨t374, A510, H⟩ := H
        replace H : (if t364 = (-2) then (if t372 = true then (if (t374 != t373) = true then (some false) else (if t364 = (-3) then (if (t374 != true) = true then (some false) else (if t364 = (-4) then (laws_FnFormulas.j1 kj12 t345 t346) else (laws_FnFormulas.j1 kj12 t345 t346))) else (if t364 = (-4) then (laws_FnFormulas.j1 kj12 t345 t346) else (laws_FnFormulas.j1 kj12 t345 t346)))) else (if (t374 != false) = true then (some false) else (if t364 = (-3) then (if (t374 != t373) = true then (some false) else (if t364 = (-4) then (if (t374 != true) = true then (some false) else (laws_FnFormulas.j1 kj12 t345 t346)) else (laws_FnFormulas.j1 kj12 t345 t346))) else (if t364 = (-4) then (if (t374 != true) = true then (some false) else (laws_FnFormulas.j1 kj12 t345 t346)) else (laws_FnFormulas.j1 kj12 t345 t346))))) else (if t364 = (-3) then (if t372 = true then (if (t374 != true) = true then (some false) else (if t364 = (-4) then (if (t374 != t373) = true then (some false) else (laws_FnFormulas.j1 kj12 t345 t346)) else (laws_FnFormulas.j1 kj12 t345 t346))) else (if (t374 != t373) = true then (some false) else (if t364 = (-4) then (if (t374 != true) = true then (some false) else (laws_FnFormulas.j1 kj12 t345 t346)) else (laws_FnFormulas.j1 kj12 t345 t346)))) else (if t364 = (-4) then (if t372 = true then (if (t374 != t373) = true then (some false) else (laws_FnFormulas.j1 kj12 t345 t346)) else (if (t374 != true) = true then (some false) else (laws_FnFormulas.j1 kj12 t345 t346))) else (laws_FnFormulas.j1 kj12 t345 t346)))) = some r := H
        have A51 := Am10 A510
        clear A510
        by_cases c52 : t364 = (-2)
        ·rw [if_pos c52] at H
         have c52b0 : (t364 == (-2)) = true := beq_iff_eq.mpr c52
         have c52b1 : (t364 != (-2)) = false := bne_eq_false_iff_eq.mpr c52
         clear c52
         by_cases c53 : t372 = true
         ·subst c53
          have H1 : (if (t374 != t373) = true then (some false) else (if t364 = (-3) then (if (t374 != true) = true then (some false) else (if t364 = (-4) then (laws_FnFormulas.j1 kj12 t345 t346) else (laws_FnFormulas.j1 kj12 t345 t346))) else (if t364 = (-4) then (laws_FnFormulas.j1 kj12 t345 t346) else (laws_FnFormulas.j1 kj12 t345 t346)))) = some r := by rw [if_pos rfl] at H; exact H
          clear H
          have H := H1
          clear H1
          by_cases c54 : (t374 != t373) = true
          ·rw [if_pos c54] at H
           have c54b0 : (t374 != t373) = true := c54
           (try (have c54b1 : decide (t374 = t373) = false := by simpa using c54))
           (try (have c54b2 : (t374 == t373) = false := by simpa using c54))
           (try (have c54b3 : ¬ (t374 = t373) := by simpa using c54))
           clear c54
           obtain rfl := Option.some.inj H
           obtain ⟨Ao55, co55, eo55⟩ := Kd.R_slice HO_4.out
           subst eo55
           go_wp2_with (first | ((with_reducible refine gate_callee (f := 40) rfl ?_); refine goesL_ (some 65) rfl rfl Try.func40 (by kernel_rfl) rfl #[.slice Ao44 t362.length co44, .slice Ao55 t346.length co55] rfl (by (try simp only [List.map_toArray, List.map_cons, List.map_nil]); first | done | rfl | (simp only [List.length_drop, List.length_take]; rfl)) ?_; (with_reducible refine (impl_Value.calls kj12 _ _ t362 _ _ t346 true _ ?side1 ?side2 ?side3 ?side4 A49.out).mono ?_); (case side1 => repeat (first | exact (Qr10 HO366.out).2.2 | (with_reducible refine Ca10 ?_ _) | (with_reducible refine Cn10 ?_ _) | (with_reducible refine Cd10 ?_))); (case side2 => exact (Qr10 HO366.out).2.1); (case side3 => repeat (first | exact (Rr10 HO_4.out).2.2 | (with_reducible refine Ca10 ?_ _) | (with_reducible refine Cn10 ?_ _) | (with_reducible refine Cd10 ?_))); (case side4 => exact (Rr10 HO_4.out).2.1); rintro e w56 ⟨rfl, hb⟩; refine ⟨_, rfl, ?_⟩; have n1_ := Am10 (Kd.R_below (by (with_reducible repeat (first | apply Ra10 | apply Rn10 | apply Rd10)); exact HO_4.out) hb); have n3_ := Am10 (Kd.Q_below (by (with_reducible repeat (first | apply Qa10 | apply Qn10 | apply Qd10)); exact HO368.out) hb); have n4_ := Am10 (Kd.R_below (by (with_reducible repeat (first | apply Ra10 | apply Rn10 | apply Rd10)); exact HO371.out) hb); have n5_ := Am10 (below_step (by repeat (first | (with_reducible first | exact HB.out | apply Ba10 | apply Bn10 | apply Bd10) | exact HB.out)) hb); (try clear HO_3); (try clear HO366); clear HO_4; clear HO368; clear HO371; clear HB; have HO_4 := n1_; have HO368 := n3_; have HO371 := n4_; have HB := n5_; clear n1_ n3_ n4_ n5_; (try clear hb); (try clear hb2); (try clear hk); (try clear hi)) | ((with_reducible refine gate_callee (f := 40) rfl ?_); refine goesL_ (some 68) rfl rfl Try.func40 (by kernel_rfl) rfl #[.slice Ao45 t363.length co45, .slice Ao55 t346.length co55] rfl (by (try simp only [List.map_toArray, List.map_cons, List.map_nil]); first | done | rfl | (simp only [List.length_drop, List.length_take]; rfl)) ?_; (with_reducible refine (impl_Value.calls kj12 _ _ t363 _ _ t346 t373 _ ?side1 ?side2 ?side3 ?side4 A50.out).mono ?_); (case side1 => repeat (first | exact (Qr10 HO368.out).2.2 | (with_reducible refine Ca10 ?_ _) | (with_reducible refine Cn10 ?_ _) | (with_reducible refine Cd10 ?_))); (case side2 => exact (Qr10 HO368.out).2.1); (case side3 => repeat (first | exact (Rr10 HO_4.out).2.2 | (with_reducible refine Ca10 ?_ _) | (with_reducible refine Cn10 ?_ _) | (with_reducible refine Cd10 ?_))); (case side4 => exact (Rr10 HO_4.out).2.1); rintro e w57 ⟨rfl, hb⟩; refine ⟨_, rfl, ?_⟩; have n1_ := Am10 (Kd.R_below (by (with_reducible repeat (first | apply Ra10 | apply Rn10 | apply Rd10)); exact HO_4.out) hb); have n4_ := Am10 (Kd.R_below (by (with_reducible repeat (first | apply Ra10 | apply Rn10 | apply Rd10)); exact HO371.out) hb); have n5_ := Am10 (below_step (by repeat (first | (with_reducible first | exact HB.out | apply Ba10 | apply Bn10 | apply Bd10) | exact HB.out)) hb); (try clear HO_3); (try clear HO366); (try clear HO368); clear HO_4; clear HO371; clear HB; have HO_4 := n1_; have HO371 := n4_; have HB := n5_; clear n1_ n4_ n5_; (try clear hb); (try clear hb2); (try clear hk); (try clear hi)) | ((with_reducible refine gate_callee (f := 40) rfl ?_); refine goesL_ (some 71) rfl rfl Try.func40 (by kernel_rfl) rfl #[.slice Ao47 t369.length co47, .slice Ao55 t346.length co55] rfl (by (try simp only [List.map_toArray, List.map_cons, List.map_nil]); first | done | rfl | (simp only [List.length_drop, List.length_take]; rfl)) ?_; (with_reducible refine (impl_Value.calls kj12 _ _ t369 _ _ t346 t374 _ ?side1 ?side2 ?side3 ?side4 A51.out).mono ?_); (case side1 => repeat (first | exact (Rr10 HO371.out).2.2 | (with_reducible refine Ca10 ?_ _) | (with_reducible refine Cn10 ?_ _) | (with_reducible refine Cd10 ?_))); (case side2 => exact (Rr10 HO371.out).2.1); (case side3 => repeat (first | exact (Rr10 HO_4.out).2.2 | (with_reducible refine Ca10 ?_ _) | (with_reducible refine Cn10 ?_ _) | (with_reducible refine Cd10 ?_))); (case side4 => exact (Rr10 HO_4.out).2.1); rintro e w58 ⟨rfl, hb⟩; refine ⟨_, rfl, ?_⟩; have n5_ := Am10 (below_step (by repeat (first | (with_reducible first | exact HB.out | apply Ba10 | apply Bn10 | apply Bd10) | exact HB.out)) hb); (try clear HO_3); (try clear HO_4); (try clear HO366); (try clear HO368); (try clear HO371); clear HB; have HB := n5_; clear n5_; (try clear hb); (try clear hb2); (try clear hk); (try clear hi)))
           all_goals go_ret
           all_goals exact ⟨by first | rfl | (simp [errW_none, errW_some] <;> rfl) | (simp [*, errW_none, errW_some] <;> rfl), by repeat (first | (with_reducible first | exact HB.out | apply Ba10 | apply Bn10 | apply Bd10) | exact HB.out)⟩
          ·rw [if_neg c54] at H
           have c54b0 : (t374 != t373) = false := by simpa using c54
           (try (have c54b1 : decide (t374 = t373) = true := by simpa using c54))
           (try (have c54b2 : (t374 == t373) = true := by simpa using c54))
           clear c54
           by_cases c59 : t364 = (-3)
           ·exact absurd ((beq_iff_eq.mp c52b0).symm.trans c59) (by decide)
           ·rw [if_neg c59] at H
            have c59b0 : (t364 == (-3)) = false := beq_eq_false_iff_ne.mpr c59
            have c59b1 : (t364 != (-3)) = true := bne_iff_ne.mpr c59
            by_cases c74 : t364 = (-4)
            ·exact absurd ((beq_iff_eq.mp c52b0).symm.trans c74) (by decide)
            ·rw [if_neg c74] at H
             have c74b0 : (t364 == (-4)) = false := beq_eq_false_iff_ne.mpr c74
             have c74b1 : (t364 != (-4)) = true := bne_iff_ne.mpr c74
             have H' := Am10 H
             clear H
             obtain ⟨Ao79, co79, eo79⟩ := Kd.R_slice HO_4.out
             subst eo79
             go_wp2_with (first | ((with_reducible refine gate_callee (f := 40) rfl ?_); refine goesL_ (some 65) rfl rfl Try.func40 (by kernel_rfl) rfl #[.slice Ao44 t362.length co44, .slice Ao79 t346.length co79] rfl (by (try simp only [List.map_toArray, List.map_cons, List.map_nil]); first | done | rfl | (simp only [List.length_drop, List.length_take]; rfl)) ?_; (with_reducible refine (impl_Value.calls kj12 _ _ t362 _ _ t346 true _ ?side1 ?side2 ?side3 ?side4 A49.out).mono ?_); (case side1 => repeat (first | exact (Qr10 HO366.out).2.2 | (with_reducible refine Ca10 ?_ _) | (with_reducible refine Cn10 ?_ _) | (with_reducible refine Cd10 ?_))); (case side2 => exact (Qr10 HO366.out).2.1); (case side3 => repeat (first | exact (Rr10 HO_4.out).2.2 | (with_reducible refine Ca10 ?_ _) | (with_reducible refine Cn10 ?_ _) | (with_reducible refine Cd10 ?_))); (case side4 => exact (Rr10 HO_4.out).2.1); rintro e w80 ⟨rfl, hb⟩; refine ⟨_, rfl, ?_⟩; have n0_ := Am10 (Kd.Q_below (by (with_reducible repeat (first | apply Qa10 | apply Qn10 | apply Qd10)); exact HO_3.out) hb); have n1_ := Am10 (Kd.R_below (by (with_reducible repeat (first | apply Ra10 | apply Rn10 | apply Rd10)); exact HO_4.out) hb); have n3_ := Am10 (Kd.Q_below (by (with_reducible repeat (first | apply Qa10 | apply Qn10 | apply Qd10)); exact HO368.out) hb); have n4_ := Am10 (Kd.R_below (by (with_reducible repeat (first | apply Ra10 | apply Rn10 | apply Rd10)); exact HO371.out) hb); have n5_ := Am10 (below_step (by repeat (first | (with_reducible first | exact HB.out | apply Ba10 | apply Bn10 | apply Bd10) | exact HB.out)) hb); (try clear HO366); clear HO_3; clear HO_4; clear HO368; clear HO371; clear HB; have HO_3 := n0_; have HO_4 := n1_; have HO368 := n3_; have HO371 := n4_; have HB := n5_; clear n0_ n1_ n3_ n4_ n5_; (try clear hb); (try clear hb2); (try clear hk); (try clear hi)) | ((with_reducible refine gate_callee (f := 40) rfl ?_); refine goesL_ (some 68) rfl rfl Try.func40 (by kernel_rfl) rfl #[.slice Ao45 t363.length co45, .slice Ao79 t346.length co79] rfl (by (try simp only [List.map_toArray, List.map_cons, List.map_nil]); first | done | rfl | (simp only [List.length_drop, List.length_take]; rfl)) ?_; (with_reducible refine (impl_Value.calls kj12 _ _ t363 _ _ t346 t373 _ ?side1 ?side2 ?side3 ?side4 A50.out).mono ?_); (case side1 => repeat (first | exact (Qr10 HO368.out).2.2 | (with_reducible refine Ca10 ?_ _) | (with_reducible refine Cn10 ?_ _) | (with_reducible refine Cd10 ?_))); (case side2 => exact (Qr10 HO368.out).2.1); (case side3 => repeat (first | exact (Rr10 HO_4.out).2.2 | (with_reducible refine Ca10 ?_ _) | (with_reducible refine Cn10 ?_ _) | (with_reducible refine Cd10 ?_))); (case side4 => exact (Rr10 HO_4.out).2.1); rintro e w81 ⟨rfl, hb⟩; refine ⟨_, rfl, ?_⟩; have n0_ := Am10 (Kd.Q_below (by (with_reducible repeat (first | apply Qa10 | apply Qn10 | apply Qd10)); exact HO_3.out) hb); have n1_ := Am10 (Kd.R_below (by (with_reducible repeat (first | apply Ra10 | apply Rn10 | apply Rd10)); exact HO_4.out) hb); have n4_ := Am10 (Kd.R_below (by (with_reducible repeat (first | apply Ra10 | apply Rn10 | apply Rd10)); exact HO371.out) hb); have n5_ := Am10 (below_step (by repeat (first | (with_reducible first | exact HB.out | apply Ba10 | apply Bn10 | apply Bd10) | exact HB.out)) hb); (try clear HO366); (try clear HO368); clear HO_3; clear HO_4; clear HO371; clear HB; have HO_3 := n0_; have HO_4 := n1_; have HO371 := n4_; have HB := n5_; clear n0_ n1_ n4_ n5_; (try clear hb); (try clear hb2); (try clear hk); (try clear hi)) | ((with_reducible refine gate_callee (f := 40) rfl ?_); refine goesL_ (some 71) rfl rfl Try.func40 (by kernel_rfl) rfl #[.slice Ao47 t369.length co47, .slice Ao79 t346.length co79] rfl (by (try simp only [List.map_toArray, List.map_cons, List.map_nil]); first | done | rfl | (simp only [List.length_drop, List.length_take]; rfl)) ?_; (with_reducible refine (impl_Value.calls kj12 _ _ t369 _ _ t346 t374 _ ?side1 ?side2 ?side3 ?side4 A51.out).mono ?_); (case side1 => repeat (first | exact (Rr10 HO371.out).2.2 | (with_reducible refine Ca10 ?_ _) | (with_reducible refine Cn10 ?_ _) | (with_reducible refine Cd10 ?_))); (case side2 => exact (Rr10 HO371.out).2.1); (case side3 => repeat (first | exact (Rr10 HO_4.out).2.2 | (with_reducible refine Ca10 ?_ _) | (with_reducible refine Cn10 ?_ _) | (with_reducible refine Cd10 ?_))); (case side4 => exact (Rr10 HO_4.out).2.1); rintro e w82 ⟨rfl, hb⟩; refine ⟨_, rfl, ?_⟩; have n0_ := Am10 (Kd.Q_below (by (with_reducible repeat (first | apply Qa10 | apply Qn10 | apply Qd10)); exact HO_3.out) hb); have n1_ := Am10 (Kd.R_below (by (with_reducible repeat (first | apply Ra10 | apply Rn10 | apply Rd10)); exact HO_4.out) hb); have n5_ := Am10 (below_step (by repeat (first | (with_reducible first | exact HB.out | apply Ba10 | apply Bn10 | apply Bd10) | exact HB.out)) hb); (try clear HO366); (try clear HO368); (try clear HO371); clear HO_3; clear HO_4; clear HB; have HO_3 := n0_; have HO_4 := n1_; have HB := n5_; clear n0_ n1_ n5_; (try clear hb); (try clear hb2); (try clear hk); (try clear hi)))
             go_meet
             case rel => exact ⟨_, H', ⟨by have := HJ12.out; first | omega | exact Nat.le_refl _⟩, ⟨by (with_reducible repeat (first | apply Qa10 | apply Qn10 | apply Qd10)); exact Kd.Q_mono HO_3.out (fun _ hk => trivial)⟩, ⟨by (with_reducible repeat (first | apply Ra10 | apply Rn10 | apply Rd10)); exact HO_4.out⟩, ⟨by repeat (first | (with_reducible first | exact HB.out | apply Ba10 | apply Bn10 | apply Bd10) | exact HB.out)⟩⟩
         ·replace c53 := Bool.eq_false_iff.mpr c53
          subst c53
          have H1 : (if (t374 != false) = true then (some false) else (if t364 = (-3) then (if (t374 != t373) = true then (some false) else (if t364 = (-4) then (if (t374 != true) = true then (some false) else (laws_FnFormulas.j1 kj12 t345 t346)) else (laws_FnFormulas.j1 kj12 t345 t346))) else (if t364 = (-4) then (if (t374 != true) = true then (some false) else (laws_FnFormulas.j1 kj12 t345 t346)) else (laws_FnFormulas.j1 kj12 t345 t346)))) = some r := by rw [if_neg (show ¬ (false = true) by decide)] at H; exact H
          clear H
          have H := H1
          clear H1
          by_cases c83 : (t374 != false) = true
          ·rw [if_pos c83] at H
           have c83b0 : (t374 != false) = true := c83
           (try (have c83b1 : decide (t374 = false) = false := by simpa using c83))
           (try (have c83b2 : (t374 == false) = false := by simpa using c83))
           (try (have c83b3 : ¬ (t374 = false) := by simpa using c83))
           clear c83
           obtain rfl := Option.some.inj H
           obtain ⟨Ao84, co84, eo84⟩ := Kd.R_slice HO_4.out
           subst eo84
           go_wp2_with (first | ((with_reducible refine gate_callee (f := 40) rfl ?_); refine goesL_ (some 65) rfl rfl Try.func40 (by kernel_rfl) rfl #[.slice Ao44 t362.length co44, .slice Ao84 t346.length co84] rfl (by (try simp only [List.map_toArray, List.map_cons, List.map_nil]); first | done | rfl | (simp only [List.length_drop, List.length_take]; rfl)) ?_; (with_reducible refine (impl_Value.calls kj12 _ _ t362 _ _ t346 false _ ?side1 ?side2 ?side3 ?side4 A49.out).mono ?_); (case side1 => repeat (first | exact (Qr10 HO366.out).2.2 | (with_reducible refine Ca10 ?_ _) | (with_reducible refine Cn10 ?_ _) | (with_reducible refine Cd10 ?_))); (case side2 => exact (Qr10 HO366.out).2.1); (case side3 => repeat (first | exact (Rr10 HO_4.out).2.2 | (with_reducible refine Ca10 ?_ _) | (with_reducible refine Cn10 ?_ _) | (with_reducible refine Cd10 ?_))); (case side4 => exact (Rr10 HO_4.out).2.1); rintro e w85 ⟨rfl, hb⟩; refine ⟨_, rfl, ?_⟩; have n1_ := Am10 (Kd.R_below (by (with_reducible repeat (first | apply Ra10 | apply Rn10 | apply Rd10)); exact HO_4.out) hb); have n3_ := Am10 (Kd.Q_below (by (with_reducible repeat (first | apply Qa10 | apply Qn10 | apply Qd10)); exact HO368.out) hb); have n4_ := Am10 (Kd.R_below (by (with_reducible repeat (first | apply Ra10 | apply Rn10 | apply Rd10)); exact HO371.out) hb); have n5_ := Am10 (below_step (by repeat (first | (with_reducible first | exact HB.out | apply Ba10 | apply Bn10 | apply Bd10) | exact HB.out)) hb); (try clear HO_3); (try clear HO366); clear HO_4; clear HO368; clear HO371; clear HB; have HO_4 := n1_; have HO368 := n3_; have HO371 := n4_; have HB := n5_; clear n1_ n3_ n4_ n5_; (try clear hb); (try clear hb2); (try clear hk); (try clear hi)) | ((with_reducible refine gate_callee (f := 40) rfl ?_); refine goesL_ (some 68) rfl rfl Try.func40 (by kernel_rfl) rfl #[.slice Ao45 t363.length co45, .slice Ao84 t346.length co84] rfl (by (try simp only [List.map_toArray, List.map_cons, List.map_nil]); first | done | rfl | (simp only [List.length_drop, List.length_take]; rfl)) ?_; (with_reducible refine (impl_Value.calls kj12 _ _ t363 _ _ t346 t373 _ ?side1 ?side2 ?side3 ?side4 A50.out).mono ?_); (case side1 => repeat (first | exact (Qr10 HO368.out).2.2 | (with_reducible refine Ca10 ?_ _) | (with_reducible refine Cn10 ?_ _) | (with_reducible refine Cd10 ?_))); (case side2 => exact (Qr10 HO368.out).2.1); (case side3 => repeat (first | exact (Rr10 HO_4.out).2.2 | (with_reducible refine Ca10 ?_ _) | (with_reducible refine Cn10 ?_ _) | (with_reducible refine Cd10 ?_))); (case side4 => exact (Rr10 HO_4.out).2.1); rintro e w86 ⟨rfl, hb⟩; refine ⟨_, rfl, ?_⟩; have n1_ := Am10 (Kd.R_below (by (with_reducible repeat (first | apply Ra10 | apply Rn10 | apply Rd10)); exact HO_4.out) hb); have n4_ := Am10 (Kd.R_below (by (with_reducible repeat (first | apply Ra10 | apply Rn10 | apply Rd10)); exact HO371.out) hb); have n5_ := Am10 (below_step (by repeat (first | (with_reducible first | exact HB.out | apply Ba10 | apply Bn10 | apply Bd10) | exact HB.out)) hb); (try clear HO_3); (try clear HO366); (try clear HO368); clear HO_4; clear HO371; clear HB; have HO_4 := n1_; have HO371 := n4_; have HB := n5_; clear n1_ n4_ n5_; (try clear hb); (try clear hb2); (try clear hk); (try clear hi)) | ((with_reducible refine gate_callee (f := 40) rfl ?_); refine goesL_ (some 71) rfl rfl Try.func40 (by kernel_rfl) rfl #[.slice Ao47 t369.length co47, .slice Ao84 t346.length co84] rfl (by (try simp only [List.map_toArray, List.map_cons, List.map_nil]); first | done | rfl | (simp only [List.length_drop, List.length_take]; rfl)) ?_; (with_reducible refine (impl_Value.calls kj12 _ _ t369 _ _ t346 t374 _ ?side1 ?side2 ?side3 ?side4 A51.out).mono ?_); (case side1 => repeat (first | exact (Rr10 HO371.out).2.2 | (with_reducible refine Ca10 ?_ _) | (with_reducible refine Cn10 ?_ _) | (with_reducible refine Cd10 ?_))); (case side2 => exact (Rr10 HO371.out).2.1); (case side3 => repeat (first | exact (Rr10 HO_4.out).2.2 | (with_reducible refine Ca10 ?_ _) | (with_reducible refine Cn10 ?_ _) | (with_reducible refine Cd10 ?_))); (case side4 => exact (Rr10 HO_4.out).2.1); rintro e w87 ⟨rfl, hb⟩; refine ⟨_, rfl, ?_⟩; have n5_ := Am10 (below_step (by repeat (first | (with_reducible first | exact HB.out | apply Ba10 | apply Bn10 | apply Bd10) | exact HB.out)) hb); (try clear HO_3); (try clear HO_4); (try clear HO366); (try clear HO368); (try clear HO371); clear HB; have HB := n5_; clear n5_; (try clear hb); (try clear hb2); (try clear hk); (try clear hi)))
           all_goals go_ret
           all_goals exact ⟨by first | rfl | (simp [errW_none, errW_some] <;> rfl) | (simp [*, errW_none, errW_some] <;> rfl), by repeat (first | (with_reducible first | exact HB.out | apply Ba10 | apply Bn10 | apply Bd10) | exact HB.out)⟩
          ·rw [if_neg c83] at H
           have c83b0 : (t374 != false) = false := by simpa using c83
           (try (have c83b1 : decide (t374 = false) = true := by simpa using c83))
           (try (have c83b2 : (t374 == false) = true := by simpa using c83))
           clear c83
           by_cases c88 : t364 = (-3)
           ·exact absurd ((beq_iff_eq.mp c52b0).symm.trans c88) (by decide)
           ·rw [if_neg c88] at H
            have c88b0 : (t364 == (-3)) = false := beq_eq_false_iff_ne.mpr c88
            have c88b1 : (t364 != (-3)) = true := bne_iff_ne.mpr c88
            by_cases c108 : t364 = (-4)
            ·exact absurd ((beq_iff_eq.mp c52b0).symm.trans c108) (by decide)
            ·rw [if_neg c108] at H
             have c108b0 : (t364 == (-4)) = false := beq_eq_false_iff_ne.mpr c108
             have c108b1 : (t364 != (-4)) = true := bne_iff_ne.mpr c108
             have H' := Am10 H
             clear H
             obtain ⟨Ao118, co118, eo118⟩ := Kd.R_slice HO_4.out
             subst eo118
             go_wp2_with (first | ((with_reducible refine gate_callee (f := 40) rfl ?_); refine goesL_ (some 65) rfl rfl Try.func40 (by kernel_rfl) rfl #[.slice Ao44 t362.length co44, .slice Ao118 t346.length co118] rfl (by (try simp only [List.map_toArray, List.map_cons, List.map_nil]); first | done | rfl | (simp only [List.length_drop, List.length_take]; rfl)) ?_; (with_reducible refine (impl_Value.calls kj12 _ _ t362 _ _ t346 false _ ?side1 ?side2 ?side3 ?side4 A49.out).mono ?_); (case side1 => repeat (first | exact (Qr10 HO366.out).2.2 | (with_reducible refine Ca10 ?_ _) | (with_reducible refine Cn10 ?_ _) | (with_reducible refine Cd10 ?_))); (case side2 => exact (Qr10 HO366.out).2.1); (case side3 => repeat (first | exact (Rr10 HO_4.out).2.2 | (with_reducible refine Ca10 ?_ _) | (with_reducible refine Cn10 ?_ _) | (with_reducible refine Cd10 ?_))); (case side4 => exact (Rr10 HO_4.out).2.1); rintro e w119 ⟨rfl, hb⟩; refine ⟨_, rfl, ?_⟩; have n0_ := Am10 (Kd.Q_below (by (with_reducible repeat (first | apply Qa10 | apply Qn10 | apply Qd10)); exact HO_3.out) hb); have n1_ := Am10 (Kd.R_below (by (with_reducible repeat (first | apply Ra10 | apply Rn10 | apply Rd10)); exact HO_4.out) hb); have n3_ := Am10 (Kd.Q_below (by (with_reducible repeat (first | apply Qa10 | apply Qn10 | apply Qd10)); exact HO368.out) hb); have n4_ := Am10 (Kd.R_below (by (with_reducible repeat (first | apply Ra10 | apply Rn10 | apply Rd10)); exact HO371.out) hb); have n5_ := Am10 (below_step (by repeat (first | (with_reducible first | exact HB.out | apply Ba10 | apply Bn10 | apply Bd10) | exact HB.out)) hb); (try clear HO366); clear HO_3; clear HO_4; clear HO368; clear HO371; clear HB; have HO_3 := n0_; have HO_4 := n1_; have HO368 := n3_; have HO371 := n4_; have HB := n5_; clear n0_ n1_ n3_ n4_ n5_; (try clear hb); (try clear hb2); (try clear hk); (try clear hi)) | ((with_reducible refine gate_callee (f := 40) rfl ?_); refine goesL_ (some 68) rfl rfl Try.func40 (by kernel_rfl) rfl #[.slice Ao45 t363.length co45, .slice Ao118 t346.length co118] rfl (by (try simp only [List.map_toArray, List.map_cons, List.map_nil]); first | done | rfl | (simp only [List.length_drop, List.length_take]; rfl)) ?_; (with_reducible refine (impl_Value.calls kj12 _ _ t363 _ _ t346 t373 _ ?side1 ?side2 ?side3 ?side4 A50.out).mono ?_); (case side1 => repeat (first | exact (Qr10 HO368.out).2.2 | (with_reducible refine Ca10 ?_ _) | (with_reducible refine Cn10 ?_ _) | (with_reducible refine Cd10 ?_))); (case side2 => exact (Qr10 HO368.out).2.1); (case side3 => repeat (first | exact (Rr10 HO_4.out).2.2 | (with_reducible refine Ca10 ?_ _) | (with_reducible refine Cn10 ?_ _) | (with_reducible refine Cd10 ?_))); (case side4 => exact (Rr10 HO_4.out).2.1); rintro e w120 ⟨rfl, hb⟩; refine ⟨_, rfl, ?_⟩; have n0_ := Am10 (Kd.Q_below (by (with_reducible repeat (first | apply Qa10 | apply Qn10 | apply Qd10)); exact HO_3.out) hb); have n1_ := Am10 (Kd.R_below (by (with_reducible repeat (first | apply Ra10 | apply Rn10 | apply Rd10)); exact HO_4.out) hb); have n4_ := Am10 (Kd.R_below (by (with_reducible repeat (first | apply Ra10 | apply Rn10 | apply Rd10)); exact HO371.out) hb); have n5_ := Am10 (below_step (by repeat (first | (with_reducible first | exact HB.out | apply Ba10 | apply Bn10 | apply Bd10) | exact HB.out)) hb); (try clear HO366); (try clear HO368); clear HO_3; clear HO_4; clear HO371; clear HB; have HO_3 := n0_; have HO_4 := n1_; have HO371 := n4_; have HB := n5_; clear n0_ n1_ n4_ n5_; (try clear hb); (try clear hb2); (try clear hk); (try clear hi)) | ((with_reducible refine gate_callee (f := 40) rfl ?_); refine goesL_ (some 71) rfl rfl Try.func40 (by kernel_rfl) rfl #[.slice Ao47 t369.length co47, .slice Ao118 t346.length co118] rfl (by (try simp only [List.map_toArray, List.map_cons, List.map_nil]); first | done | rfl | (simp only [List.length_drop, List.length_take]; rfl)) ?_; (with_reducible refine (impl_Value.calls kj12 _ _ t369 _ _ t346 t374 _ ?side1 ?side2 ?side3 ?side4 A51.out).mono ?_); (case side1 => repeat (first | exact (Rr10 HO371.out).2.2 | (with_reducible refine Ca10 ?_ _) | (with_reducible refine Cn10 ?_ _) | (with_reducible refine Cd10 ?_))); (case side2 => exact (Rr10 HO371.out).2.1); (case side3 => repeat (first | exact (Rr10 HO_4.out).2.2 | (with_reducible refine Ca10 ?_ _) | (with_reducible refine Cn10 ?_ _) | (with_reducible refine Cd10 ?_))); (case side4 => exact (Rr10 HO_4.out).2.1); rintro e w121 ⟨rfl, hb⟩; refine ⟨_, rfl, ?_⟩; have n0_ := Am10 (Kd.Q_below (by (with_reducible repeat (first | apply Qa10 | apply Qn10 | apply Qd10)); exact HO_3.out) hb); have n1_ := Am10 (Kd.R_below (by (with_reducible repeat (first | apply Ra10 | apply Rn10 | apply Rd10)); exact HO_4.out) hb); have n5_ := Am10 (below_step (by repeat (first | (with_reducible first | exact HB.out | apply Ba10 | apply Bn10 | apply Bd10) | exact HB.out)) hb); (try clear HO366); (try clear HO368); (try clear HO371); clear HO_3; clear HO_4; clear HB; have HO_3 := n0_; have HO_4 := n1_; have HB := n5_; clear n0_ n1_ n5_; (try clear hb); (try clear hb2); (try clear hk); (try clear hi)))
             go_meet
             case rel => exact ⟨_, H', ⟨by have := HJ12.out; first | omega | exact Nat.le_refl _⟩, ⟨by (with_reducible repeat (first | apply Qa10 | apply Qn10 | apply Qd10)); exact Kd.Q_mono HO_3.out (fun _ hk => trivial)⟩, ⟨by (with_reducible repeat (first | apply Ra10 | apply Rn10 | apply Rd10)); exact HO_4.out⟩, ⟨by repeat (first | (with_reducible first | exact HB.out | apply Ba10 | apply Bn10 | apply Bd10) | exact HB.out)⟩⟩
        ·rw [if_neg c52] at H
         have c52b0 : (t364 == (-2)) = false := beq_eq_false_iff_ne.mpr c52
         have c52b1 : (t364 != (-2)) = true := bne_iff_ne.mpr c52
         by_cases c122 : t364 = (-3)
         ·rw [if_pos c122] at H
          have c122b0 : (t364 == (-3)) = true := beq_iff_eq.mpr c122
          have c122b1 : (t364 != (-3)) = false := bne_eq_false_iff_eq.mpr c122
          clear c122
          by_cases c123 : t372 = true
          ·subst c123
           have H1 : (if (t374 != true) = true then (some false) else (if t364 = (-4) then (if (t374 != t373) = true then (some false) else (laws_FnFormulas.j1 kj12 t345 t346)) else (laws_FnFormulas.j1 kj12 t345 t346))) = some r := by rw [if_pos rfl] at H; exact H
           clear H
           have H := H1
           clear H1
           by_cases c124 : (t374 != true) = true
           ·rw [if_pos c124] at H
            have c124b0 : (t374 != true) = true := c124
            (try (have c124b1 : decide (t374 = true) = false := by simpa using c124))
            (try (have c124b2 : (t374 == true) = false := by simpa using c124))
            (try (have c124b3 : ¬ (t374 = true) := by simpa using c124))
            clear c124
            obtain rfl := Option.some.inj H
            obtain ⟨Ao125, co125, eo125⟩ := Kd.R_slice HO_4.out
            subst eo125
            go_wp2_with (first | ((with_reducible refine gate_callee (f := 40) rfl ?_); refine goesL_ (some 65) rfl rfl Try.func40 (by kernel_rfl) rfl #[.slice Ao44 t362.length co44, .slice Ao125 t346.length co125] rfl (by (try simp only [List.map_toArray, List.map_cons, List.map_nil]); first | done | rfl | (simp only [List.length_drop, List.length_take]; rfl)) ?_; (with_reducible refine (impl_Value.calls kj12 _ _ t362 _ _ t346 true _ ?side1 ?side2 ?side3 ?side4 A49.out).mono ?_); (case side1 => repeat (first | exact (Qr10 HO366.out).2.2 | (with_reducible refine Ca10 ?_ _) | (with_reducible refine Cn10 ?_ _) | (with_reducible refine Cd10 ?_))); (case side2 => exact (Qr10 HO366.out).2.1); (case side3 => repeat (first | exact (Rr10 HO_4.out).2.2 | (with_reducible refine Ca10 ?_ _) | (with_reducible refine Cn10 ?_ _) | (with_reducible refine Cd10 ?_))); (case side4 => exact (Rr10 HO_4.out).2.1); rintro e w126 ⟨rfl, hb⟩; refine ⟨_, rfl, ?_⟩; have n1_ := Am10 (Kd.R_below (by (with_reducible repeat (first | apply Ra10 | apply Rn10 | apply Rd10)); exact HO_4.out) hb); have n3_ := Am10 (Kd.Q_below (by (with_reducible repeat (first | apply Qa10 | apply Qn10 | apply Qd10)); exact HO368.out) hb); have n4_ := Am10 (Kd.R_below (by (with_reducible repeat (first | apply Ra10 | apply Rn10 | apply Rd10)); exact HO371.out) hb); have n5_ := Am10 (below_step (by repeat (first | (with_reducible first | exact HB.out | apply Ba10 | apply Bn10 | apply Bd10) | exact HB.out)) hb); (try clear HO_3); (try clear HO366); clear HO_4; clear HO368; clear HO371; clear HB; have HO_4 := n1_; have HO368 := n3_; have HO371 := n4_; have HB := n5_; clear n1_ n3_ n4_ n5_; (try clear hb); (try clear hb2); (try clear hk); (try clear hi)) | ((with_reducible refine gate_callee (f := 40) rfl ?_); refine goesL_ (some 68) rfl rfl Try.func40 (by kernel_rfl) rfl #[.slice Ao45 t363.length co45, .slice Ao125 t346.length co125] rfl (by (try simp only [List.map_toArray, List.map_cons, List.map_nil]); first | done | rfl | (simp only [List.length_drop, List.length_take]; rfl)) ?_; (with_reducible refine (impl_Value.calls kj12 _ _ t363 _ _ t346 t373 _ ?side1 ?side2 ?side3 ?side4 A50.out).mono ?_); (case side1 => repeat (first | exact (Qr10 HO368.out).2.2 | (with_reducible refine Ca10 ?_ _) | (with_reducible refine Cn10 ?_ _) | (with_reducible refine Cd10 ?_))); (case side2 => exact (Qr10 HO368.out).2.1); (case side3 => repeat (first | exact (Rr10 HO_4.out).2.2 | (with_reducible refine Ca10 ?_ _) | (with_reducible refine Cn10 ?_ _) | (with_reducible refine Cd10 ?_))); (case side4 => exact (Rr10 HO_4.out).2.1); rintro e w127 ⟨rfl, hb⟩; refine ⟨_, rfl, ?_⟩; have n1_ := Am10 (Kd.R_below (by (with_reducible repeat (first | apply Ra10 | apply Rn10 | apply Rd10)); exact HO_4.out) hb); have n4_ := Am10 (Kd.R_below (by (with_reducible repeat (first | apply Ra10 | apply Rn10 | apply Rd10)); exact HO371.out) hb); have n5_ := Am10 (below_step (by repeat (first | (with_reducible first | exact HB.out | apply Ba10 | apply Bn10 | apply Bd10) | exact HB.out)) hb); (try clear HO_3); (try clear HO366); (try clear HO368); clear HO_4; clear HO371; clear HB; have HO_4 := n1_; have HO371 := n4_; have HB := n5_; clear n1_ n4_ n5_; (try clear hb); (try clear hb2); (try clear hk); (try clear hi)) | ((with_reducible refine gate_callee (f := 40) rfl ?_); refine goesL_ (some 71) rfl rfl Try.func40 (by kernel_rfl) rfl #[.slice Ao47 t369.length co47, .slice Ao125 t346.length co125] rfl (by (try simp only [List.map_toArray, List.map_cons, List.map_nil]); first | done | rfl | (simp only [List.length_drop, List.length_take]; rfl)) ?_; (with_reducible refine (impl_Value.calls kj12 _ _ t369 _ _ t346 t374 _ ?side1 ?side2 ?side3 ?side4 A51.out).mono ?_); (case side1 => repeat (first | exact (Rr10 HO371.out).2.2 | (with_reducible refine Ca10 ?_ _) | (with_reducible refine Cn10 ?_ _) | (with_reducible refine Cd10 ?_))); (case side2 => exact (Rr10 HO371.out).2.1); (case side3 => repeat (first | exact (Rr10 HO_4.out).2.2 | (with_reducible refine Ca10 ?_ _) | (with_reducible refine Cn10 ?_ _) | (with_reducible refine Cd10 ?_))); (case side4 => exact (Rr10 HO_4.out).2.1); rintro e w128 ⟨rfl, hb⟩; refine ⟨_, rfl, ?_⟩; have n5_ := Am10 (below_step (by repeat (first | (with_reducible first | exact HB.out | apply Ba10 | apply Bn10 | apply Bd10) | exact HB.out)) hb); (try clear HO_3); (try clear HO_4); (try clear HO366); (try clear HO368); (try clear HO371); clear HB; have HB := n5_; clear n5_; (try clear hb); (try clear hb2); (try clear hk); (try clear hi)))
            all_goals go_ret
            all_goals exact ⟨by first | rfl | (simp [errW_none, errW_some] <;> rfl) | (simp [*, errW_none, errW_some] <;> rfl), by repeat (first | (with_reducible first | exact HB.out | apply Ba10 | apply Bn10 | apply Bd10) | exact HB.out)⟩
           ·rw [if_neg c124] at H
            have c124b0 : (t374 != true) = false := by simpa using c124
            (try (have c124b1 : decide (t374 = true) = true := by simpa using c124))
            (try (have c124b2 : (t374 == true) = true := by simpa using c124))
            clear c124
            by_cases c129 : t364 = (-4)
            ·exact absurd ((beq_iff_eq.mp c122b0).symm.trans c129) (by decide)
            ·rw [if_neg c129] at H
             have c129b0 : (t364 == (-4)) = false := beq_eq_false_iff_ne.mpr c129
             have c129b1 : (t364 != (-4)) = true := bne_iff_ne.mpr c129
             have H' := Am10 H
             clear H
             obtain ⟨Ao139, co139, eo139⟩ := Kd.R_slice HO_4.out
             subst eo139
             go_wp2_with (first | ((with_reducible refine gate_callee (f := 40) rfl ?_); refine goesL_ (some 65) rfl rfl Try.func40 (by kernel_rfl) rfl #[.slice Ao44 t362.length co44, .slice Ao139 t346.length co139] rfl (by (try simp only [List.map_toArray, List.map_cons, List.map_nil]); first | done | rfl | (simp only [List.length_drop, List.length_take]; rfl)) ?_; (with_reducible refine (impl_Value.calls kj12 _ _ t362 _ _ t346 true _ ?side1 ?side2 ?side3 ?side4 A49.out).mono ?_); (case side1 => repeat (first | exact (Qr10 HO366.out).2.2 | (with_reducible refine Ca10 ?_ _) | (with_reducible refine Cn10 ?_ _) | (with_reducible refine Cd10 ?_))); (case side2 => exact (Qr10 HO366.out).2.1); (case side3 => repeat (first | exact (Rr10 HO_4.out).2.2 | (with_reducible refine Ca10 ?_ _) | (with_reducible refine Cn10 ?_ _) | (with_reducible refine Cd10 ?_))); (case side4 => exact (Rr10 HO_4.out).2.1); rintro e w140 ⟨rfl, hb⟩; refine ⟨_, rfl, ?_⟩; have n0_ := Am10 (Kd.Q_below (by (with_reducible repeat (first | apply Qa10 | apply Qn10 | apply Qd10)); exact HO_3.out) hb); have n1_ := Am10 (Kd.R_below (by (with_reducible repeat (first | apply Ra10 | apply Rn10 | apply Rd10)); exact HO_4.out) hb); have n3_ := Am10 (Kd.Q_below (by (with_reducible repeat (first | apply Qa10 | apply Qn10 | apply Qd10)); exact HO368.out) hb); have n4_ := Am10 (Kd.R_below (by (with_reducible repeat (first | apply Ra10 | apply Rn10 | apply Rd10)); exact HO371.out) hb); have n5_ := Am10 (below_step (by repeat (first | (with_reducible first | exact HB.out | apply Ba10 | apply Bn10 | apply Bd10) | exact HB.out)) hb); (try clear HO366); clear HO_3; clear HO_4; clear HO368; clear HO371; clear HB; have HO_3 := n0_; have HO_4 := n1_; have HO368 := n3_; have HO371 := n4_; have HB := n5_; clear n0_ n1_ n3_ n4_ n5_; (try clear hb); (try clear hb2); (try clear hk); (try clear hi)) | ((with_reducible refine gate_callee (f := 40) rfl ?_); refine goesL_ (some 68) rfl rfl Try.func40 (by kernel_rfl) rfl #[.slice Ao45 t363.length co45, .slice Ao139 t346.length co139] rfl (by (try simp only [List.map_toArray, List.map_cons, List.map_nil]); first | done | rfl | (simp only [List.length_drop, List.length_take]; rfl)) ?_; (with_reducible refine (impl_Value.calls kj12 _ _ t363 _ _ t346 t373 _ ?side1 ?side2 ?side3 ?side4 A50.out).mono ?_); (case side1 => repeat (first | exact (Qr10 HO368.out).2.2 | (with_reducible refine Ca10 ?_ _) | (with_reducible refine Cn10 ?_ _) | (with_reducible refine Cd10 ?_))); (case side2 => exact (Qr10 HO368.out).2.1); (case side3 => repeat (first | exact (Rr10 HO_4.out).2.2 | (with_reducible refine Ca10 ?_ _) | (with_reducible refine Cn10 ?_ _) | (with_reducible refine Cd10 ?_))); (case side4 => exact (Rr10 HO_4.out).2.1); rintro e w141 ⟨rfl, hb⟩; refine ⟨_, rfl, ?_⟩; have n0_ := Am10 (Kd.Q_below (by (with_reducible repeat (first | apply Qa10 | apply Qn10 | apply Qd10)); exact HO_3.out) hb); have n1_ := Am10 (Kd.R_below (by (with_reducible repeat (first | apply Ra10 | apply Rn10 | apply Rd10)); exact HO_4.out) hb); have n4_ := Am10 (Kd.R_below (by (with_reducible repeat (first | apply Ra10 | apply Rn10 | apply Rd10)); exact HO371.out) hb); have n5_ := Am10 (below_step (by repeat (first | (with_reducible first | exact HB.out | apply Ba10 | apply Bn10 | apply Bd10) | exact HB.out)) hb); (try clear HO366); (try clear HO368); clear HO_3; clear HO_4; clear HO371; clear HB; have HO_3 := n0_; have HO_4 := n1_; have HO371 := n4_; have HB := n5_; clear n0_ n1_ n4_ n5_; (try clear hb); (try clear hb2); (try clear hk); (try clear hi)) | ((with_reducible refine gate_callee (f := 40) rfl ?_); refine goesL_ (some 71) rfl rfl Try.func40 (by kernel_rfl) rfl #[.slice Ao47 t369.length co47, .slice Ao139 t346.length co139] rfl (by (try simp only [List.map_toArray, List.map_cons, List.map_nil]); first | done | rfl | (simp only [List.length_drop, List.length_take]; rfl)) ?_; (with_reducible refine (impl_Value.calls kj12 _ _ t369 _ _ t346 t374 _ ?side1 ?side2 ?side3 ?side4 A51.out).mono ?_); (case side1 => repeat (first | exact (Rr10 HO371.out).2.2 | (with_reducible refine Ca10 ?_ _) | (with_reducible refine Cn10 ?_ _) | (with_reducible refine Cd10 ?_))); (case side2 => exact (Rr10 HO371.out).2.1); (case side3 => repeat (first | exact (Rr10 HO_4.out).2.2 | (with_reducible refine Ca10 ?_ _) | (with_reducible refine Cn10 ?_ _) | (with_reducible refine Cd10 ?_))); (case side4 => exact (Rr10 HO_4.out).2.1); rintro e w142 ⟨rfl, hb⟩; refine ⟨_, rfl, ?_⟩; have n0_ := Am10 (Kd.Q_below (by (with_reducible repeat (first | apply Qa10 | apply Qn10 | apply Qd10)); exact HO_3.out) hb); have n1_ := Am10 (Kd.R_below (by (with_reducible repeat (first | apply Ra10 | apply Rn10 | apply Rd10)); exact HO_4.out) hb); have n5_ := Am10 (below_step (by repeat (first | (with_reducible first | exact HB.out | apply Ba10 | apply Bn10 | apply Bd10) | exact HB.out)) hb); (try clear HO366); (try clear HO368); (try clear HO371); clear HO_3; clear HO_4; clear HB; have HO_3 := n0_; have HO_4 := n1_; have HB := n5_; clear n0_ n1_ n5_; (try clear hb); (try clear hb2); (try clear hk); (try clear hi)))
             go_meet
             case rel => exact ⟨_, H', ⟨by have := HJ12.out; first | omega | exact Nat.le_refl _⟩, ⟨by (with_reducible repeat (first | apply Qa10 | apply Qn10 | apply Qd10)); exact Kd.Q_mono HO_3.out (fun _ hk => trivial)⟩, ⟨by (with_reducible repeat (first | apply Ra10 | apply Rn10 | apply Rd10)); exact HO_4.out⟩, ⟨by repeat (first | (with_reducible first | exact HB.out | apply Ba10 | apply Bn10 | apply Bd10) | exact HB.out)⟩⟩
          ·replace c123 := Bool.eq_false_iff.mpr c123
           subst c123
           have H1 : (if (t374 != t373) = true then (some false) else (if t364 = (-4) then (if (t374 != true) = true then (some false) else (laws_FnFormulas.j1 kj12 t345 t346)) else (laws_FnFormulas.j1 kj12 t345 t346))) = some r := by rw [if_neg (show ¬ (false = true) by decide)] at H; exact H
           clear H
           have H := H1
           clear H1
           by_cases c143 : (t374 != t373) = true
           ·rw [if_pos c143] at H
            have c143b0 : (t374 != t373) = true := c143
            (try (have c143b1 : decide (t374 = t373) = false := by simpa using c143))
            (try (have c143b2 : (t374 == t373) = false := by simpa using c143))
            (try (have c143b3 : ¬ (t374 = t373) := by simpa using c143))
            clear c143
            obtain rfl := Option.some.inj H
            obtain ⟨Ao144, co144, eo144⟩ := Kd.R_slice HO_4.out
            subst eo144
            go_wp2_with (first | ((with_reducible refine gate_callee (f := 40) rfl ?_); refine goesL_ (some 65) rfl rfl Try.func40 (by kernel_rfl) rfl #[.slice Ao44 t362.length co44, .slice Ao144 t346.length co144] rfl (by (try simp only [List.map_toArray, List.map_cons, List.map_nil]); first | done | rfl | (simp only [List.length_drop, List.length_take]; rfl)) ?_; (with_reducible refine (impl_Value.calls kj12 _ _ t362 _ _ t346 false _ ?side1 ?side2 ?side3 ?side4 A49.out).mono ?_); (case side1 => repeat (first | exact (Qr10 HO366.out).2.2 | (with_reducible refine Ca10 ?_ _) | (with_reducible refine Cn10 ?_ _) | (with_reducible refine Cd10 ?_))); (case side2 => exact (Qr10 HO366.out).2.1); (case side3 => repeat (first | exact (Rr10 HO_4.out).2.2 | (with_reducible refine Ca10 ?_ _) | (with_reducible refine Cn10 ?_ _) | (with_reducible refine Cd10 ?_))); (case side4 => exact (Rr10 HO_4.out).2.1); rintro e w145 ⟨rfl, hb⟩; refine ⟨_, rfl, ?_⟩; have n1_ := Am10 (Kd.R_below (by (with_reducible repeat (first | apply Ra10 | apply Rn10 | apply Rd10)); exact HO_4.out) hb); have n3_ := Am10 (Kd.Q_below (by (with_reducible repeat (first | apply Qa10 | apply Qn10 | apply Qd10)); exact HO368.out) hb); have n4_ := Am10 (Kd.R_below (by (with_reducible repeat (first | apply Ra10 | apply Rn10 | apply Rd10)); exact HO371.out) hb); have n5_ := Am10 (below_step (by repeat (first | (with_reducible first | exact HB.out | apply Ba10 | apply Bn10 | apply Bd10) | exact HB.out)) hb); (try clear HO_3); (try clear HO366); clear HO_4; clear HO368; clear HO371; clear HB; have HO_4 := n1_; have HO368 := n3_; have HO371 := n4_; have HB := n5_; clear n1_ n3_ n4_ n5_; (try clear hb); (try clear hb2); (try clear hk); (try clear hi)) | ((with_reducible refine gate_callee (f := 40) rfl ?_); refine goesL_ (some 68) rfl rfl Try.func40 (by kernel_rfl) rfl #[.slice Ao45 t363.length co45, .slice Ao144 t346.length co144] rfl (by (try simp only [List.map_toArray, List.map_cons, List.map_nil]); first | done | rfl | (simp only [List.length_drop, List.length_take]; rfl)) ?_; (with_reducible refine (impl_Value.calls kj12 _ _ t363 _ _ t346 t373 _ ?side1 ?side2 ?side3 ?side4 A50.out).mono ?_); (case side1 => repeat (first | exact (Qr10 HO368.out).2.2 | (with_reducible refine Ca10 ?_ _) | (with_reducible refine Cn10 ?_ _) | (with_reducible refine Cd10 ?_))); (case side2 => exact (Qr10 HO368.out).2.1); (case side3 => repeat (first | exact (Rr10 HO_4.out).2.2 | (with_reducible refine Ca10 ?_ _) | (with_reducible refine Cn10 ?_ _) | (with_reducible refine Cd10 ?_))); (case side4 => exact (Rr10 HO_4.out).2.1); rintro e w146 ⟨rfl, hb⟩; refine ⟨_, rfl, ?_⟩; have n1_ := Am10 (Kd.R_below (by (with_reducible repeat (first | apply Ra10 | apply Rn10 | apply Rd10)); exact HO_4.out) hb); have n4_ := Am10 (Kd.R_below (by (with_reducible repeat (first | apply Ra10 | apply Rn10 | apply Rd10)); exact HO371.out) hb); have n5_ := Am10 (below_step (by repeat (first | (with_reducible first | exact HB.out | apply Ba10 | apply Bn10 | apply Bd10) | exact HB.out)) hb); (try clear HO_3); (try clear HO366); (try clear HO368); clear HO_4; clear HO371; clear HB; have HO_4 := n1_; have HO371 := n4_; have HB := n5_; clear n1_ n4_ n5_; (try clear hb); (try clear hb2); (try clear hk); (try clear hi)) | ((with_reducible refine gate_callee (f := 40) rfl ?_); refine goesL_ (some 71) rfl rfl Try.func40 (by kernel_rfl) rfl #[.slice Ao47 t369.length co47, .slice Ao144 t346.length co144] rfl (by (try simp only [List.map_toArray, List.map_cons, List.map_nil]); first | done | rfl | (simp only [List.length_drop, List.length_take]; rfl)) ?_; (with_reducible refine (impl_Value.calls kj12 _ _ t369 _ _ t346 t374 _ ?side1 ?side2 ?side3 ?side4 A51.out).mono ?_); (case side1 => repeat (first | exact (Rr10 HO371.out).2.2 | (with_reducible refine Ca10 ?_ _) | (with_reducible refine Cn10 ?_ _) | (with_reducible refine Cd10 ?_))); (case side2 => exact (Rr10 HO371.out).2.1); (case side3 => repeat (first | exact (Rr10 HO_4.out).2.2 | (with_reducible refine Ca10 ?_ _) | (with_reducible refine Cn10 ?_ _) | (with_reducible refine Cd10 ?_))); (case side4 => exact (Rr10 HO_4.out).2.1); rintro e w147 ⟨rfl, hb⟩; refine ⟨_, rfl, ?_⟩; have n5_ := Am10 (below_step (by repeat (first | (with_reducible first | exact HB.out | apply Ba10 | apply Bn10 | apply Bd10) | exact HB.out)) hb); (try clear HO_3); (try clear HO_4); (try clear HO366); (try clear HO368); (try clear HO371); clear HB; have HB := n5_; clear n5_; (try clear hb); (try clear hb2); (try clear hk); (try clear hi)))
            all_goals go_ret
            all_goals exact ⟨by first | rfl | (simp [errW_none, errW_some] <;> rfl) | (simp [*, errW_none, errW_some] <;> rfl), by repeat (first | (with_reducible first | exact HB.out | apply Ba10 | apply Bn10 | apply Bd10) | exact HB.out)⟩
           ·rw [if_neg c143] at H
            have c143b0 : (t374 != t373) = false := by simpa using c143
            (try (have c143b1 : decide (t374 = t373) = true := by simpa using c143))
            (try (have c143b2 : (t374 == t373) = true := by simpa using c143))
            clear c143
            by_cases c148 : t364 = (-4)
            ·exact absurd ((beq_iff_eq.mp c122b0).symm.trans c148) (by decide)
            ·rw [if_neg c148] at H
             have c148b0 : (t364 == (-4)) = false := beq_eq_false_iff_ne.mpr c148
             have c148b1 : (t364 != (-4)) = true := bne_iff_ne.mpr c148
             have H' := Am10 H
             clear H
             obtain ⟨Ao158, co158, eo158⟩ := Kd.R_slice HO_4.out
             subst eo158
             go_wp2_with (first | ((with_reducible refine gate_callee (f := 40) rfl ?_); refine goesL_ (some 65) rfl rfl Try.func40 (by kernel_rfl) rfl #[.slice Ao44 t362.length co44, .slice Ao158 t346.length co158] rfl (by (try simp only [List.map_toArray, List.map_cons, List.map_nil]); first | done | rfl | (simp only [List.length_drop, List.length_take]; rfl)) ?_; (with_reducible refine (impl_Value.calls kj12 _ _ t362 _ _ t346 false _ ?side1 ?side2 ?side3 ?side4 A49.out).mono ?_); (case side1 => repeat (first | exact (Qr10 HO366.out).2.2 | (with_reducible refine Ca10 ?_ _) | (with_reducible refine Cn10 ?_ _) | (with_reducible refine Cd10 ?_))); (case side2 => exact (Qr10 HO366.out).2.1); (case side3 => repeat (first | exact (Rr10 HO_4.out).2.2 | (with_reducible refine Ca10 ?_ _) | (with_reducible refine Cn10 ?_ _) | (with_reducible refine Cd10 ?_))); (case side4 => exact (Rr10 HO_4.out).2.1); rintro e w159 ⟨rfl, hb⟩; refine ⟨_, rfl, ?_⟩; have n0_ := Am10 (Kd.Q_below (by (with_reducible repeat (first | apply Qa10 | apply Qn10 | apply Qd10)); exact HO_3.out) hb); have n1_ := Am10 (Kd.R_below (by (with_reducible repeat (first | apply Ra10 | apply Rn10 | apply Rd10)); exact HO_4.out) hb); have n3_ := Am10 (Kd.Q_below (by (with_reducible repeat (first | apply Qa10 | apply Qn10 | apply Qd10)); exact HO368.out) hb); have n4_ := Am10 (Kd.R_below (by (with_reducible repeat (first | apply Ra10 | apply Rn10 | apply Rd10)); exact HO371.out) hb); have n5_ := Am10 (below_step (by repeat (first | (with_reducible first | exact HB.out | apply Ba10 | apply Bn10 | apply Bd10) | exact HB.out)) hb); (try clear HO366); clear HO_3; clear HO_4; clear HO368; clear HO371; clear HB; have HO_3 := n0_; have HO_4 := n1_; have HO368 := n3_; have HO371 := n4_; have HB := n5_; clear n0_ n1_ n3_ n4_ n5_; (try clear hb); (try clear hb2); (try clear hk); (try clear hi)) | ((with_reducible refine gate_callee (f := 40) rfl ?_); refine goesL_ (some 68) rfl rfl Try.func40 (by kernel_rfl) rfl #[.slice Ao45 t363.length co45, .slice Ao158 t346.length co158] rfl (by (try simp only [List.map_toArray, List.map_cons, List.map_nil]); first | done | rfl | (simp only [List.length_drop, List.length_take]; rfl)) ?_; (with_reducible refine (impl_Value.calls kj12 _ _ t363 _ _ t346 t373 _ ?side1 ?side2 ?side3 ?side4 A50.out).mono ?_); (case side1 => repeat (first | exact (Qr10 HO368.out).2.2 | (with_reducible refine Ca10 ?_ _) | (with_reducible refine Cn10 ?_ _) | (with_reducible refine Cd10 ?_))); (case side2 => exact (Qr10 HO368.out).2.1); (case side3 => repeat (first | exact (Rr10 HO_4.out).2.2 | (with_reducible refine Ca10 ?_ _) | (with_reducible refine Cn10 ?_ _) | (with_reducible refine Cd10 ?_))); (case side4 => exact (Rr10 HO_4.out).2.1); rintro e w160 ⟨rfl, hb⟩; refine ⟨_, rfl, ?_⟩; have n0_ := Am10 (Kd.Q_below (by (with_reducible repeat (first | apply Qa10 | apply Qn10 | apply Qd10)); exact HO_3.out) hb); have n1_ := Am10 (Kd.R_below (by (with_reducible repeat (first | apply Ra10 | apply Rn10 | apply Rd10)); exact HO_4.out) hb); have n4_ := Am10 (Kd.R_below (by (with_reducible repeat (first | apply Ra10 | apply Rn10 | apply Rd10)); exact HO371.out) hb); have n5_ := Am10 (below_step (by repeat (first | (with_reducible first | exact HB.out | apply Ba10 | apply Bn10 | apply Bd10) | exact HB.out)) hb); (try clear HO366); (try clear HO368); clear HO_3; clear HO_4; clear HO371; clear HB; have HO_3 := n0_; have HO_4 := n1_; have HO371 := n4_; have HB := n5_; clear n0_ n1_ n4_ n5_; (try clear hb); (try clear hb2); (try clear hk); (try clear hi)) | ((with_reducible refine gate_callee (f := 40) rfl ?_); refine goesL_ (some 71) rfl rfl Try.func40 (by kernel_rfl) rfl #[.slice Ao47 t369.length co47, .slice Ao158 t346.length co158] rfl (by (try simp only [List.map_toArray, List.map_cons, List.map_nil]); first | done | rfl | (simp only [List.length_drop, List.length_take]; rfl)) ?_; (with_reducible refine (impl_Value.calls kj12 _ _ t369 _ _ t346 t374 _ ?side1 ?side2 ?side3 ?side4 A51.out).mono ?_); (case side1 => repeat (first | exact (Rr10 HO371.out).2.2 | (with_reducible refine Ca10 ?_ _) | (with_reducible refine Cn10 ?_ _) | (with_reducible refine Cd10 ?_))); (case side2 => exact (Rr10 HO371.out).2.1); (case side3 => repeat (first | exact (Rr10 HO_4.out).2.2 | (with_reducible refine Ca10 ?_ _) | (with_reducible refine Cn10 ?_ _) | (with_reducible refine Cd10 ?_))); (case side4 => exact (Rr10 HO_4.out).2.1); rintro e w161 ⟨rfl, hb⟩; refine ⟨_, rfl, ?_⟩; have n0_ := Am10 (Kd.Q_below (by (with_reducible repeat (first | apply Qa10 | apply Qn10 | apply Qd10)); exact HO_3.out) hb); have n1_ := Am10 (Kd.R_below (by (with_reducible repeat (first | apply Ra10 | apply Rn10 | apply Rd10)); exact HO_4.out) hb); have n5_ := Am10 (below_step (by repeat (first | (with_reducible first | exact HB.out | apply Ba10 | apply Bn10 | apply Bd10) | exact HB.out)) hb); (try clear HO366); (try clear HO368); (try clear HO371); clear HO_3; clear HO_4; clear HB; have HO_3 := n0_; have HO_4 := n1_; have HB := n5_; clear n0_ n1_ n5_; (try clear hb); (try clear hb2); (try clear hk); (try clear hi)))
             go_meet
             case rel => exact ⟨_, H', ⟨by have := HJ12.out; first | omega | exact Nat.le_refl _⟩, ⟨by (with_reducible repeat (first | apply Qa10 | apply Qn10 | apply Qd10)); exact Kd.Q_mono HO_3.out (fun _ hk => trivial)⟩, ⟨by (with_reducible repeat (first | apply Ra10 | apply Rn10 | apply Rd10)); exact HO_4.out⟩, ⟨by repeat (first | (with_reducible first | exact HB.out | apply Ba10 | apply Bn10 | apply Bd10) | exact HB.out)⟩⟩
         ·rw [if_neg c122] at H
          have c122b0 : (t364 == (-3)) = false := beq_eq_false_iff_ne.mpr c122
          have c122b1 : (t364 != (-3)) = true := bne_iff_ne.mpr c122
          by_cases c162 : t364 = (-4)
          ·rw [if_pos c162] at H
           have c162b0 : (t364 == (-4)) = true := beq_iff_eq.mpr c162
           have c162b1 : (t364 != (-4)) = false := bne_eq_false_iff_eq.mpr c162
           clear c162
           by_cases c163 : t372 = true
           ·subst c163
            have H1 : (if (t374 != t373) = true then (some false) else (laws_FnFormulas.j1 kj12 t345 t346)) = some r := by rw [if_pos rfl] at H; exact H
            clear H
            have H := H1
            clear H1
            by_cases c164 : (t374 != t373) = true
            ·rw [if_pos c164] at H
             have c164b0 : (t374 != t373) = true := c164
             (try (have c164b1 : decide (t374 = t373) = false := by simpa using c164))
             (try (have c164b2 : (t374 == t373) = false := by simpa using c164))
             (try (have c164b3 : ¬ (t374 = t373) := by simpa using c164))
             clear c164
             obtain rfl := Option.some.inj H
             obtain ⟨Ao165, co165, eo165⟩ := Kd.R_slice HO_4.out
             subst eo165
             go_wp2_with (first | ((with_reducible refine gate_callee (f := 40) rfl ?_); refine goesL_ (some 65) rfl rfl Try.func40 (by kernel_rfl) rfl #[.slice Ao44 t362.length co44, .slice Ao165 t346.length co165] rfl (by (try simp only [List.map_toArray, List.map_cons, List.map_nil]); first | done | rfl | (simp only [List.length_drop, List.length_take]; rfl)) ?_; (with_reducible refine (impl_Value.calls kj12 _ _ t362 _ _ t346 true _ ?side1 ?side2 ?side3 ?side4 A49.out).mono ?_); (case side1 => repeat (first | exact (Qr10 HO366.out).2.2 | (with_reducible refine Ca10 ?_ _) | (with_reducible refine Cn10 ?_ _) | (with_reducible refine Cd10 ?_))); (case side2 => exact (Qr10 HO366.out).2.1); (case side3 => repeat (first | exact (Rr10 HO_4.out).2.2 | (with_reducible refine Ca10 ?_ _) | (with_reducible refine Cn10 ?_ _) | (with_reducible refine Cd10 ?_))); (case side4 => exact (Rr10 HO_4.out).2.1); rintro e w166 ⟨rfl, hb⟩; refine ⟨_, rfl, ?_⟩; have n1_ := Am10 (Kd.R_below (by (with_reducible repeat (first | apply Ra10 | apply Rn10 | apply Rd10)); exact HO_4.out) hb); have n3_ := Am10 (Kd.Q_below (by (with_reducible repeat (first | apply Qa10 | apply Qn10 | apply Qd10)); exact HO368.out) hb); have n4_ := Am10 (Kd.R_below (by (with_reducible repeat (first | apply Ra10 | apply Rn10 | apply Rd10)); exact HO371.out) hb); have n5_ := Am10 (below_step (by repeat (first | (with_reducible first | exact HB.out | apply Ba10 | apply Bn10 | apply Bd10) | exact HB.out)) hb); (try clear HO_3); (try clear HO366); clear HO_4; clear HO368; clear HO371; clear HB; have HO_4 := n1_; have HO368 := n3_; have HO371 := n4_; have HB := n5_; clear n1_ n3_ n4_ n5_; (try clear hb); (try clear hb2); (try clear hk); (try clear hi)) | ((with_reducible refine gate_callee (f := 40) rfl ?_); refine goesL_ (some 68) rfl rfl Try.func40 (by kernel_rfl) rfl #[.slice Ao45 t363.length co45, .slice Ao165 t346.length co165] rfl (by (try simp only [List.map_toArray, List.map_cons, List.map_nil]); first | done | rfl | (simp only [List.length_drop, List.length_take]; rfl)) ?_; (with_reducible refine (impl_Value.calls kj12 _ _ t363 _ _ t346 t373 _ ?side1 ?side2 ?side3 ?side4 A50.out).mono ?_); (case side1 => repeat (first | exact (Qr10 HO368.out).2.2 | (with_reducible refine Ca10 ?_ _) | (with_reducible refine Cn10 ?_ _) | (with_reducible refine Cd10 ?_))); (case side2 => exact (Qr10 HO368.out).2.1); (case side3 => repeat (first | exact (Rr10 HO_4.out).2.2 | (with_reducible refine Ca10 ?_ _) | (with_reducible refine Cn10 ?_ _) | (with_reducible refine Cd10 ?_))); (case side4 => exact (Rr10 HO_4.out).2.1); rintro e w167 ⟨rfl, hb⟩; refine ⟨_, rfl, ?_⟩; have n1_ := Am10 (Kd.R_below (by (with_reducible repeat (first | apply Ra10 | apply Rn10 | apply Rd10)); exact HO_4.out) hb); have n4_ := Am10 (Kd.R_below (by (with_reducible repeat (first | apply Ra10 | apply Rn10 | apply Rd10)); exact HO371.out) hb); have n5_ := Am10 (below_step (by repeat (first | (with_reducible first | exact HB.out | apply Ba10 | apply Bn10 | apply Bd10) | exact HB.out)) hb); (try clear HO_3); (try clear HO366); (try clear HO368); clear HO_4; clear HO371; clear HB; have HO_4 := n1_; have HO371 := n4_; have HB := n5_; clear n1_ n4_ n5_; (try clear hb); (try clear hb2); (try clear hk); (try clear hi)) | ((with_reducible refine gate_callee (f := 40) rfl ?_); refine goesL_ (some 71) rfl rfl Try.func40 (by kernel_rfl) rfl #[.slice Ao47 t369.length co47, .slice Ao165 t346.length co165] rfl (by (try simp only [List.map_toArray, List.map_cons, List.map_nil]); first | done | rfl | (simp only [List.length_drop, List.length_take]; rfl)) ?_; (with_reducible refine (impl_Value.calls kj12 _ _ t369 _ _ t346 t374 _ ?side1 ?side2 ?side3 ?side4 A51.out).mono ?_); (case side1 => repeat (first | exact (Rr10 HO371.out).2.2 | (with_reducible refine Ca10 ?_ _) | (with_reducible refine Cn10 ?_ _) | (with_reducible refine Cd10 ?_))); (case side2 => exact (Rr10 HO371.out).2.1); (case side3 => repeat (first | exact (Rr10 HO_4.out).2.2 | (with_reducible refine Ca10 ?_ _) | (with_reducible refine Cn10 ?_ _) | (with_reducible refine Cd10 ?_))); (case side4 => exact (Rr10 HO_4.out).2.1); rintro e w168 ⟨rfl, hb⟩; refine ⟨_, rfl, ?_⟩; have n5_ := Am10 (below_step (by repeat (first | (with_reducible first | exact HB.out | apply Ba10 | apply Bn10 | apply Bd10) | exact HB.out)) hb); (try clear HO_3); (try clear HO_4); (try clear HO366); (try clear HO368); (try clear HO371); clear HB; have HB := n5_; clear n5_; (try clear hb); (try clear hb2); (try clear hk); (try clear hi)))
             all_goals go_ret
             all_goals exact ⟨by first | rfl | (simp [errW_none, errW_some] <;> rfl) | (simp [*, errW_none, errW_some] <;> rfl), by repeat (first | (with_reducible first | exact HB.out | apply Ba10 | apply Bn10 | apply Bd10) | exact HB.out)⟩
            ·rw [if_neg c164] at H
             have c164b0 : (t374 != t373) = false := by simpa using c164
             (try (have c164b1 : decide (t374 = t373) = true := by simpa using c164))
             (try (have c164b2 : (t374 == t373) = true := by simpa using c164))
             clear c164
             have H' := Am10 H
             clear H
             obtain ⟨Ao169, co169, eo169⟩ := Kd.R_slice HO_4.out
             subst eo169
             go_wp2_with (first | ((with_reducible refine gate_callee (f := 40) rfl ?_); refine goesL_ (some 65) rfl rfl Try.func40 (by kernel_rfl) rfl #[.slice Ao44 t362.length co44, .slice Ao169 t346.length co169] rfl (by (try simp only [List.map_toArray, List.map_cons, List.map_nil]); first | done | rfl | (simp only [List.length_drop, List.length_take]; rfl)) ?_; (with_reducible refine (impl_Value.calls kj12 _ _ t362 _ _ t346 true _ ?side1 ?side2 ?side3 ?side4 A49.out).mono ?_); (case side1 => repeat (first | exact (Qr10 HO366.out).2.2 | (with_reducible refine Ca10 ?_ _) | (with_reducible refine Cn10 ?_ _) | (with_reducible refine Cd10 ?_))); (case side2 => exact (Qr10 HO366.out).2.1); (case side3 => repeat (first | exact (Rr10 HO_4.out).2.2 | (with_reducible refine Ca10 ?_ _) | (with_reducible refine Cn10 ?_ _) | (with_reducible refine Cd10 ?_))); (case side4 => exact (Rr10 HO_4.out).2.1); rintro e w170 ⟨rfl, hb⟩; refine ⟨_, rfl, ?_⟩; have n0_ := Am10 (Kd.Q_below (by (with_reducible repeat (first | apply Qa10 | apply Qn10 | apply Qd10)); exact HO_3.out) hb); have n1_ := Am10 (Kd.R_below (by (with_reducible repeat (first | apply Ra10 | apply Rn10 | apply Rd10)); exact HO_4.out) hb); have n3_ := Am10 (Kd.Q_below (by (with_reducible repeat (first | apply Qa10 | apply Qn10 | apply Qd10)); exact HO368.out) hb); have n4_ := Am10 (Kd.R_below (by (with_reducible repeat (first | apply Ra10 | apply Rn10 | apply Rd10)); exact HO371.out) hb); have n5_ := Am10 (below_step (by repeat (first | (with_reducible first | exact HB.out | apply Ba10 | apply Bn10 | apply Bd10) | exact HB.out)) hb); (try clear HO366); clear HO_3; clear HO_4; clear HO368; clear HO371; clear HB; have HO_3 := n0_; have HO_4 := n1_; have HO368 := n3_; have HO371 := n4_; have HB := n5_; clear n0_ n1_ n3_ n4_ n5_; (try clear hb); (try clear hb2); (try clear hk); (try clear hi)) | ((with_reducible refine gate_callee (f := 40) rfl ?_); refine goesL_ (some 68) rfl rfl Try.func40 (by kernel_rfl) rfl #[.slice Ao45 t363.length co45, .slice Ao169 t346.length co169] rfl (by (try simp only [List.map_toArray, List.map_cons, List.map_nil]); first | done | rfl | (simp only [List.length_drop, List.length_take]; rfl)) ?_; (with_reducible refine (impl_Value.calls kj12 _ _ t363 _ _ t346 t373 _ ?side1 ?side2 ?side3 ?side4 A50.out).mono ?_); (case side1 => repeat (first | exact (Qr10 HO368.out).2.2 | (with_reducible refine Ca10 ?_ _) | (with_reducible refine Cn10 ?_ _) | (with_reducible refine Cd10 ?_))); (case side2 => exact (Qr10 HO368.out).2.1); (case side3 => repeat (first | exact (Rr10 HO_4.out).2.2 | (with_reducible refine Ca10 ?_ _) | (with_reducible refine Cn10 ?_ _) | (with_reducible refine Cd10 ?_))); (case side4 => exact (Rr10 HO_4.out).2.1); rintro e w171 ⟨rfl, hb⟩; refine ⟨_, rfl, ?_⟩; have n0_ := Am10 (Kd.Q_below (by (with_reducible repeat (first | apply Qa10 | apply Qn10 | apply Qd10)); exact HO_3.out) hb); have n1_ := Am10 (Kd.R_below (by (with_reducible repeat (first | apply Ra10 | apply Rn10 | apply Rd10)); exact HO_4.out) hb); have n4_ := Am10 (Kd.R_below (by (with_reducible repeat (first | apply Ra10 | apply Rn10 | apply Rd10)); exact HO371.out) hb); have n5_ := Am10 (below_step (by repeat (first | (with_reducible first | exact HB.out | apply Ba10 | apply Bn10 | apply Bd10) | exact HB.out)) hb); (try clear HO366); (try clear HO368); clear HO_3; clear HO_4; clear HO371; clear HB; have HO_3 := n0_; have HO_4 := n1_; have HO371 := n4_; have HB := n5_; clear n0_ n1_ n4_ n5_; (try clear hb); (try clear hb2); (try clear hk); (try clear hi)) | ((with_reducible refine gate_callee (f := 40) rfl ?_); refine goesL_ (some 71) rfl rfl Try.func40 (by kernel_rfl) rfl #[.slice Ao47 t369.length co47, .slice Ao169 t346.length co169] rfl (by (try simp only [List.map_toArray, List.map_cons, List.map_nil]); first | done | rfl | (simp only [List.length_drop, List.length_take]; rfl)) ?_; (with_reducible refine (impl_Value.calls kj12 _ _ t369 _ _ t346 t374 _ ?side1 ?side2 ?side3 ?side4 A51.out).mono ?_); (case side1 => repeat (first | exact (Rr10 HO371.out).2.2 | (with_reducible refine Ca10 ?_ _) | (with_reducible refine Cn10 ?_ _) | (with_reducible refine Cd10 ?_))); (case side2 => exact (Rr10 HO371.out).2.1); (case side3 => repeat (first | exact (Rr10 HO_4.out).2.2 | (with_reducible refine Ca10 ?_ _) | (with_reducible refine Cn10 ?_ _) | (with_reducible refine Cd10 ?_))); (case side4 => exact (Rr10 HO_4.out).2.1); rintro e w172 ⟨rfl, hb⟩; refine ⟨_, rfl, ?_⟩; have n0_ := Am10 (Kd.Q_below (by (with_reducible repeat (first | apply Qa10 | apply Qn10 | apply Qd10)); exact HO_3.out) hb); have n1_ := Am10 (Kd.R_below (by (with_reducible repeat (first | apply Ra10 | apply Rn10 | apply Rd10)); exact HO_4.out) hb); have n5_ := Am10 (below_step (by repeat (first | (with_reducible first | exact HB.out | apply Ba10 | apply Bn10 | apply Bd10) | exact HB.out)) hb); (try clear HO366); (try clear HO368); (try clear HO371); clear HO_3; clear HO_4; clear HB; have HO_3 := n0_; have HO_4 := n1_; have HB := n5_; clear n0_ n1_ n5_; (try clear hb); (try clear hb2); (try clear hk); (try clear hi)))
             go_meet
             case rel => exact ⟨_, H', ⟨by have := HJ12.out; first | omega | exact Nat.le_refl _⟩, ⟨by (with_reducible repeat (first | apply Qa10 | apply Qn10 | apply Qd10)); exact Kd.Q_mono HO_3.out (fun _ hk => trivial)⟩, ⟨by (with_reducible repeat (first | apply Ra10 | apply Rn10 | apply Rd10)); exact HO_4.out⟩, ⟨by repeat (first | (with_reducible first | exact HB.out | apply Ba10 | apply Bn10 | apply Bd10) | exact HB.out)⟩⟩
           ·replace c163 := Bool.eq_false_iff.mpr c163
            subst c163
            have H1 : (if (t374 != true) = true then (some false) else (laws_FnFormulas.j1 kj12 t345 t346)) = some r := by rw [if_neg (show ¬ (false = true) by decide)] at H; exact H
            clear H
            have H := H1
            clear H1
            by_cases c173 : (t374 != true) = true
            ·rw [if_pos c173] at H
             have c173b0 : (t374 != true) = true := c173
             (try (have c173b1 : decide (t374 = true) = false := by simpa using c173))
             (try (have c173b2 : (t374 == true) = false := by simpa using c173))
             (try (have c173b3 : ¬ (t374 = true) := by simpa using c173))
             clear c173
             obtain rfl := Option.some.inj H
             obtain ⟨Ao174, co174, eo174⟩ := Kd.R_slice HO_4.out
             subst eo174
             go_wp2_with (first | ((with_reducible refine gate_callee (f := 40) rfl ?_); refine goesL_ (some 65) rfl rfl Try.func40 (by kernel_rfl) rfl #[.slice Ao44 t362.length co44, .slice Ao174 t346.length co174] rfl (by (try simp only [List.map_toArray, List.map_cons, List.map_nil]); first | done | rfl | (simp only [List.length_drop, List.length_take]; rfl)) ?_; (with_reducible refine (impl_Value.calls kj12 _ _ t362 _ _ t346 false _ ?side1 ?side2 ?side3 ?side4 A49.out).mono ?_); (case side1 => repeat (first | exact (Qr10 HO366.out).2.2 | (with_reducible refine Ca10 ?_ _) | (with_reducible refine Cn10 ?_ _) | (with_reducible refine Cd10 ?_))); (case side2 => exact (Qr10 HO366.out).2.1); (case side3 => repeat (first | exact (Rr10 HO_4.out).2.2 | (with_reducible refine Ca10 ?_ _) | (with_reducible refine Cn10 ?_ _) | (with_reducible refine Cd10 ?_))); (case side4 => exact (Rr10 HO_4.out).2.1); rintro e w175 ⟨rfl, hb⟩; refine ⟨_, rfl, ?_⟩; have n1_ := Am10 (Kd.R_below (by (with_reducible repeat (first | apply Ra10 | apply Rn10 | apply Rd10)); exact HO_4.out) hb); have n3_ := Am10 (Kd.Q_below (by (with_reducible repeat (first | apply Qa10 | apply Qn10 | apply Qd10)); exact HO368.out) hb); have n4_ := Am10 (Kd.R_below (by (with_reducible repeat (first | apply Ra10 | apply Rn10 | apply Rd10)); exact HO371.out) hb); have n5_ := Am10 (below_step (by repeat (first | (with_reducible first | exact HB.out | apply Ba10 | apply Bn10 | apply Bd10) | exact HB.out)) hb); (try clear HO_3); (try clear HO366); clear HO_4; clear HO368; clear HO371; clear HB; have HO_4 := n1_; have HO368 := n3_; have HO371 := n4_; have HB := n5_; clear n1_ n3_ n4_ n5_; (try clear hb); (try clear hb2); (try clear hk); (try clear hi)) | ((with_reducible refine gate_callee (f := 40) rfl ?_); refine goesL_ (some 68) rfl rfl Try.func40 (by kernel_rfl) rfl #[.slice Ao45 t363.length co45, .slice Ao174 t346.length co174] rfl (by (try simp only [List.map_toArray, List.map_cons, List.map_nil]); first | done | rfl | (simp only [List.length_drop, List.length_take]; rfl)) ?_; (with_reducible refine (impl_Value.calls kj12 _ _ t363 _ _ t346 t373 _ ?side1 ?side2 ?side3 ?side4 A50.out).mono ?_); (case side1 => repeat (first | exact (Qr10 HO368.out).2.2 | (with_reducible refine Ca10 ?_ _) | (with_reducible refine Cn10 ?_ _) | (with_reducible refine Cd10 ?_))); (case side2 => exact (Qr10 HO368.out).2.1); (case side3 => repeat (first | exact (Rr10 HO_4.out).2.2 | (with_reducible refine Ca10 ?_ _) | (with_reducible refine Cn10 ?_ _) | (with_reducible refine Cd10 ?_))); (case side4 => exact (Rr10 HO_4.out).2.1); rintro e w176 ⟨rfl, hb⟩; refine ⟨_, rfl, ?_⟩; have n1_ := Am10 (Kd.R_below (by (with_reducible repeat (first | apply Ra10 | apply Rn10 | apply Rd10)); exact HO_4.out) hb); have n4_ := Am10 (Kd.R_below (by (with_reducible repeat (first | apply Ra10 | apply Rn10 | apply Rd10)); exact HO371.out) hb); have n5_ := Am10 (below_step (by repeat (first | (with_reducible first | exact HB.out | apply Ba10 | apply Bn10 | apply Bd10) | exact HB.out)) hb); (try clear HO_3); (try clear HO366); (try clear HO368); clear HO_4; clear HO371; clear HB; have HO_4 := n1_; have HO371 := n4_; have HB := n5_; clear n1_ n4_ n5_; (try clear hb); (try clear hb2); (try clear hk); (try clear hi)) | ((with_reducible refine gate_callee (f := 40) rfl ?_); refine goesL_ (some 71) rfl rfl Try.func40 (by kernel_rfl) rfl #[.slice Ao47 t369.length co47, .slice Ao174 t346.length co174] rfl (by (try simp only [List.map_toArray, List.map_cons, List.map_nil]); first | done | rfl | (simp only [List.length_drop, List.length_take]; rfl)) ?_; (with_reducible refine (impl_Value.calls kj12 _ _ t369 _ _ t346 t374 _ ?side1 ?side2 ?side3 ?side4 A51.out).mono ?_); (case side1 => repeat (first | exact (Rr10 HO371.out).2.2 | (with_reducible refine Ca10 ?_ _) | (with_reducible refine Cn10 ?_ _) | (with_reducible refine Cd10 ?_))); (case side2 => exact (Rr10 HO371.out).2.1); (case side3 => repeat (first | exact (Rr10 HO_4.out).2.2 | (with_reducible refine Ca10 ?_ _) | (with_reducible refine Cn10 ?_ _) | (with_reducible refine Cd10 ?_))); (case side4 => exact (Rr10 HO_4.out).2.1); rintro e w177 ⟨rfl, hb⟩; refine ⟨_, rfl, ?_⟩; have n5_ := Am10 (below_step (by repeat (first | (with_reducible first | exact HB.out | apply Ba10 | apply Bn10 | apply Bd10) | exact HB.out)) hb); (try clear HO_3); (try clear HO_4); (try clear HO366); (try clear HO368); (try clear HO371); clear HB; have HB := n5_; clear n5_; (try clear hb); (try clear hb2); (try clear hk); (try clear hi)))
             all_goals go_ret
             all_goals exact ⟨by first | rfl | (simp [errW_none, errW_some] <;> rfl) | (simp [*, errW_none, errW_some] <;> rfl), by repeat (first | (with_reducible first | exact HB.out | apply Ba10 | apply Bn10 | apply Bd10) | exact HB.out)⟩
            ·rw [if_neg c173] at H
             have c173b0 : (t374 != true) = false := by simpa using c173
             (try (have c173b1 : decide (t374 = true) = true := by simpa using c173))
             (try (have c173b2 : (t374 == true) = true := by simpa using c173))
             clear c173
             have H' := Am10 H
             clear H
             obtain ⟨Ao178, co178, eo178⟩ := Kd.R_slice HO_4.out
             subst eo178
             go_wp2_with (first | ((with_reducible refine gate_callee (f := 40) rfl ?_); refine goesL_ (some 65) rfl rfl Try.func40 (by kernel_rfl) rfl #[.slice Ao44 t362.length co44, .slice Ao178 t346.length co178] rfl (by (try simp only [List.map_toArray, List.map_cons, List.map_nil]); first | done | rfl | (simp only [List.length_drop, List.length_take]; rfl)) ?_; (with_reducible refine (impl_Value.calls kj12 _ _ t362 _ _ t346 false _ ?side1 ?side2 ?side3 ?side4 A49.out).mono ?_); (case side1 => repeat (first | exact (Qr10 HO366.out).2.2 | (with_reducible refine Ca10 ?_ _) | (with_reducible refine Cn10 ?_ _) | (with_reducible refine Cd10 ?_))); (case side2 => exact (Qr10 HO366.out).2.1); (case side3 => repeat (first | exact (Rr10 HO_4.out).2.2 | (with_reducible refine Ca10 ?_ _) | (with_reducible refine Cn10 ?_ _) | (with_reducible refine Cd10 ?_))); (case side4 => exact (Rr10 HO_4.out).2.1); rintro e w179 ⟨rfl, hb⟩; refine ⟨_, rfl, ?_⟩; have n0_ := Am10 (Kd.Q_below (by (with_reducible repeat (first | apply Qa10 | apply Qn10 | apply Qd10)); exact HO_3.out) hb); have n1_ := Am10 (Kd.R_below (by (with_reducible repeat (first | apply Ra10 | apply Rn10 | apply Rd10)); exact HO_4.out) hb); have n3_ := Am10 (Kd.Q_below (by (with_reducible repeat (first | apply Qa10 | apply Qn10 | apply Qd10)); exact HO368.out) hb); have n4_ := Am10 (Kd.R_below (by (with_reducible repeat (first | apply Ra10 | apply Rn10 | apply Rd10)); exact HO371.out) hb); have n5_ := Am10 (below_step (by repeat (first | (with_reducible first | exact HB.out | apply Ba10 | apply Bn10 | apply Bd10) | exact HB.out)) hb); (try clear HO366); clear HO_3; clear HO_4; clear HO368; clear HO371; clear HB; have HO_3 := n0_; have HO_4 := n1_; have HO368 := n3_; have HO371 := n4_; have HB := n5_; clear n0_ n1_ n3_ n4_ n5_; (try clear hb); (try clear hb2); (try clear hk); (try clear hi)) | ((with_reducible refine gate_callee (f := 40) rfl ?_); refine goesL_ (some 68) rfl rfl Try.func40 (by kernel_rfl) rfl #[.slice Ao45 t363.length co45, .slice Ao178 t346.length co178] rfl (by (try simp only [List.map_toArray, List.map_cons, List.map_nil]); first | done | rfl | (simp only [List.length_drop, List.length_take]; rfl)) ?_; (with_reducible refine (impl_Value.calls kj12 _ _ t363 _ _ t346 t373 _ ?side1 ?side2 ?side3 ?side4 A50.out).mono ?_); (case side1 => repeat (first | exact (Qr10 HO368.out).2.2 | (with_reducible refine Ca10 ?_ _) | (with_reducible refine Cn10 ?_ _) | (with_reducible refine Cd10 ?_))); (case side2 => exact (Qr10 HO368.out).2.1); (case side3 => repeat (first | exact (Rr10 HO_4.out).2.2 | (with_reducible refine Ca10 ?_ _) | (with_reducible refine Cn10 ?_ _) | (with_reducible refine Cd10 ?_))); (case side4 => exact (Rr10 HO_4.out).2.1); rintro e w180 ⟨rfl, hb⟩; refine ⟨_, rfl, ?_⟩; have n0_ := Am10 (Kd.Q_below (by (with_reducible repeat (first | apply Qa10 | apply Qn10 | apply Qd10)); exact HO_3.out) hb); have n1_ := Am10 (Kd.R_below (by (with_reducible repeat (first | apply Ra10 | apply Rn10 | apply Rd10)); exact HO_4.out) hb); have n4_ := Am10 (Kd.R_below (by (with_reducible repeat (first | apply Ra10 | apply Rn10 | apply Rd10)); exact HO371.out) hb); have n5_ := Am10 (below_step (by repeat (first | (with_reducible first | exact HB.out | apply Ba10 | apply Bn10 | apply Bd10) | exact HB.out)) hb); (try clear HO366); (try clear HO368); clear HO_3; clear HO_4; clear HO371; clear HB; have HO_3 := n0_; have HO_4 := n1_; have HO371 := n4_; have HB := n5_; clear n0_ n1_ n4_ n5_; (try clear hb); (try clear hb2); (try clear hk); (try clear hi)) | ((with_reducible refine gate_callee (f := 40) rfl ?_); refine goesL_ (some 71) rfl rfl Try.func40 (by kernel_rfl) rfl #[.slice Ao47 t369.length co47, .slice Ao178 t346.length co178] rfl (by (try simp only [List.map_toArray, List.map_cons, List.map_nil]); first | done | rfl | (simp only [List.length_drop, List.length_take]; rfl)) ?_; (with_reducible refine (impl_Value.calls kj12 _ _ t369 _ _ t346 t374 _ ?side1 ?side2 ?side3 ?side4 A51.out).mono ?_); (case side1 => repeat (first | exact (Rr10 HO371.out).2.2 | (with_reducible refine Ca10 ?_ _) | (with_reducible refine Cn10 ?_ _) | (with_reducible refine Cd10 ?_))); (case side2 => exact (Rr10 HO371.out).2.1); (case side3 => repeat (first | exact (Rr10 HO_4.out).2.2 | (with_reducible refine Ca10 ?_ _) | (with_reducible refine Cn10 ?_ _) | (with_reducible refine Cd10 ?_))); (case side4 => exact (Rr10 HO_4.out).2.1); rintro e w181 ⟨rfl, hb⟩; refine ⟨_, rfl, ?_⟩; have n0_ := Am10 (Kd.Q_below (by (with_reducible repeat (first | apply Qa10 | apply Qn10 | apply Qd10)); exact HO_3.out) hb); have n1_ := Am10 (Kd.R_below (by (with_reducible repeat (first | apply Ra10 | apply Rn10 | apply Rd10)); exact HO_4.out) hb); have n5_ := Am10 (below_step (by repeat (first | (with_reducible first | exact HB.out | apply Ba10 | apply Bn10 | apply Bd10) | exact HB.out)) hb); (try clear HO366); (try clear HO368); (try clear HO371); clear HO_3; clear HO_4; clear HB; have HO_3 := n0_; have HO_4 := n1_; have HB := n5_; clear n0_ n1_ n5_; (try clear hb); (try clear hb2); (try clear hk); (try clear hi)))
             go_meet
             case rel => exact ⟨_, H', ⟨by have := HJ12.out; first | omega | exact Nat.le_refl _⟩, ⟨by (with_reducible repeat (first | apply Qa10 | apply Qn10 | apply Qd10)); exact Kd.Q_mono HO_3.out (fun _ hk => trivial)⟩, ⟨by (with_reducible repeat (first | apply Ra10 | apply Rn10 | apply Rd10)); exact HO_4.out⟩, ⟨by repeat (first | (with_reducible first | exact HB.out | apply Ba10 | apply Bn10 | apply Bd10) | exact HB.out)⟩⟩
          ·rw [if_neg c162] at H
           have c162b0 : (t364 == (-4)) = false := beq_eq_false_iff_ne.mpr c162
           have c162b1 : (t364 != (-4)) = true := bne_iff_ne.mpr c162
           have H' := Am10 H
           clear H
           obtain ⟨Ao182, co182, eo182⟩ := Kd.R_slice HO_4.out
           subst eo182
           go_wp2_with (first | ((with_reducible refine gate_callee (f := 40) rfl ?_); refine goesL_ (some 65) rfl rfl Try.func40 (by kernel_rfl) rfl #[.slice Ao44 t362.length co44, .slice Ao182 t346.length co182] rfl (by (try simp only [List.map_toArray, List.map_cons, List.map_nil]); first | done | rfl | (simp only [List.length_drop, List.length_take]; rfl)) ?_; (with_reducible refine (impl_Value.calls kj12 _ _ t362 _ _ t346 t372 _ ?side1 ?side2 ?side3 ?side4 A49.out).mono ?_); (case side1 => repeat (first | exact (Qr10 HO366.out).2.2 | (with_reducible refine Ca10 ?_ _) | (with_reducible refine Cn10 ?_ _) | (with_reducible refine Cd10 ?_))); (case side2 => exact (Qr10 HO366.out).2.1); (case side3 => repeat (first | exact (Rr10 HO_4.out).2.2 | (with_reducible refine Ca10 ?_ _) | (with_reducible refine Cn10 ?_ _) | (with_reducible refine Cd10 ?_))); (case side4 => exact (Rr10 HO_4.out).2.1); rintro e w183 ⟨rfl, hb⟩; refine ⟨_, rfl, ?_⟩; have n0_ := Am10 (Kd.Q_below (by (with_reducible repeat (first | apply Qa10 | apply Qn10 | apply Qd10)); exact HO_3.out) hb); have n1_ := Am10 (Kd.R_below (by (with_reducible repeat (first | apply Ra10 | apply Rn10 | apply Rd10)); exact HO_4.out) hb); have n3_ := Am10 (Kd.Q_below (by (with_reducible repeat (first | apply Qa10 | apply Qn10 | apply Qd10)); exact HO368.out) hb); have n4_ := Am10 (Kd.R_below (by (with_reducible repeat (first | apply Ra10 | apply Rn10 | apply Rd10)); exact HO371.out) hb); have n5_ := Am10 (below_step (by repeat (first | (with_reducible first | exact HB.out | apply Ba10 | apply Bn10 | apply Bd10) | exact HB.out)) hb); (try clear HO366); clear HO_3; clear HO_4; clear HO368; clear HO371; clear HB; have HO_3 := n0_; have HO_4 := n1_; have HO368 := n3_; have HO371 := n4_; have HB := n5_; clear n0_ n1_ n3_ n4_ n5_; (try clear hb); (try clear hb2); (try clear hk); (try clear hi)) | ((with_reducible refine gate_callee (f := 40) rfl ?_); refine goesL_ (some 68) rfl rfl Try.func40 (by kernel_rfl) rfl #[.slice Ao45 t363.length co45, .slice Ao182 t346.length co182] rfl (by (try simp only [List.map_toArray, List.map_cons, List.map_nil]); first | done | rfl | (simp only [List.length_drop, List.length_take]; rfl)) ?_; (with_reducible refine (impl_Value.calls kj12 _ _ t363 _ _ t346 t373 _ ?side1 ?side2 ?side3 ?side4 A50.out).mono ?_); (case side1 => repeat (first | exact (Qr10 HO368.out).2.2 | (with_reducible refine Ca10 ?_ _) | (with_reducible refine Cn10 ?_ _) | (with_reducible refine Cd10 ?_))); (case side2 => exact (Qr10 HO368.out).2.1); (case side3 => repeat (first | exact (Rr10 HO_4.out).2.2 | (with_reducible refine Ca10 ?_ _) | (with_reducible refine Cn10 ?_ _) | (with_reducible refine Cd10 ?_))); (case side4 => exact (Rr10 HO_4.out).2.1); rintro e w184 ⟨rfl, hb⟩; refine ⟨_, rfl, ?_⟩; have n0_ := Am10 (Kd.Q_below (by (with_reducible repeat (first | apply Qa10 | apply Qn10 | apply Qd10)); exact HO_3.out) hb); have n1_ := Am10 (Kd.R_below (by (with_reducible repeat (first | apply Ra10 | apply Rn10 | apply Rd10)); exact HO_4.out) hb); have n4_ := Am10 (Kd.R_below (by (with_reducible repeat (first | apply Ra10 | apply Rn10 | apply Rd10)); exact HO371.out) hb); have n5_ := Am10 (below_step (by repeat (first | (with_reducible first | exact HB.out | apply Ba10 | apply Bn10 | apply Bd10) | exact HB.out)) hb); (try clear HO366); (try clear HO368); clear HO_3; clear HO_4; clear HO371; clear HB; have HO_3 := n0_; have HO_4 := n1_; have HO371 := n4_; have HB := n5_; clear n0_ n1_ n4_ n5_; (try clear hb); (try clear hb2); (try clear hk); (try clear hi)) | ((with_reducible refine gate_callee (f := 40) rfl ?_); refine goesL_ (some 71) rfl rfl Try.func40 (by kernel_rfl) rfl #[.slice Ao47 t369.length co47, .slice Ao182 t346.length co182] rfl (by (try simp only [List.map_toArray, List.map_cons, List.map_nil]); first | done | rfl | (simp only [List.length_drop, List.length_take]; rfl)) ?_; (with_reducible refine (impl_Value.calls kj12 _ _ t369 _ _ t346 t374 _ ?side1 ?side2 ?side3 ?side4 A51.out).mono ?_); (case side1 => repeat (first | exact (Rr10 HO371.out).2.2 | (with_reducible refine Ca10 ?_ _) | (with_reducible refine Cn10 ?_ _) | (with_reducible refine Cd10 ?_))); (case side2 => exact (Rr10 HO371.out).2.1); (case side3 => repeat (first | exact (Rr10 HO_4.out).2.2 | (with_reducible refine Ca10 ?_ _) | (with_reducible refine Cn10 ?_ _) | (with_reducible refine Cd10 ?_))); (case side4 => exact (Rr10 HO_4.out).2.1); rintro e w185 ⟨rfl, hb⟩; refine ⟨_, rfl, ?_⟩; have n0_ := Am10 (Kd.Q_below (by (with_reducible repeat (first | apply Qa10 | apply Qn10 | apply Qd10)); exact HO_3.out) hb); have n1_ := Am10 (Kd.R_below (by (with_reducible repeat (first | apply Ra10 | apply Rn10 | apply Rd10)); exact HO_4.out) hb); have n5_ := Am10 (below_step (by repeat (first | (with_reducible first | exact HB.out | apply Ba10 | apply Bn10 | apply Bd10) | exact HB.out)) hb); (try clear HO366); (try clear HO368); (try clear HO371); clear HO_3; clear HO_4; clear HB; have HO_3 := n0_; have HO_4 := n1_; have HB := n5_; clear n0_ n1_ n5_; (try clear hb); (try clear hb2); (try clear hk); (try clear hi)))
           go_meet
           case rel => exact ⟨_, H', ⟨by have := HJ12.out; first | omega | exact Nat.le_refl _⟩, ⟨by (with_reducible repeat (first | apply Qa10 | apply Qn10 | apply Qd10)); exact Kd.Q_mono HO_3.out (fun _ hk => trivial)⟩, ⟨by (with_reducible repeat (first | apply Ra10 | apply Rn10 | apply Rd10)); exact HO_4.out⟩, ⟨by repeat (first | (with_reducible first | exact HB.out | apply Ba10 | apply Bn10 | apply Bd10) | exact HB.out)⟩⟩
       ·rw [if_neg c48] at H
        have c48b0 : decide (0 < (t369.length : Int)) = false := decide_eq_false c48
        have c48b1 : decide (0 < t369.length) = false := decide_eq_false (by omega)
        clear c48
        (first | rw [c48b0] | (simp only [i64_w, i32_w]; rw [c48b0]) | rw [c48b1] | skip)
        have H' := Am10 H
        clear H
        go_wp2
        go_meet
        case rel => exact ⟨_, H', ⟨by have := HJ12.out; first | omega | exact Nat.le_refl _⟩, ⟨by (with_reducible repeat (first | apply Qa10 | apply Qn10 | apply Qd10)); exact Kd.Q_mono HO_3.out (fun _ hk => trivial)⟩, ⟨by (with_reducible repeat (first | apply Ra10 | apply Rn10 | apply Rd10)); exact HO_4.out⟩, ⟨by repeat (first | (with_reducible first | exact HB.out | apply Ba10 | apply Bn10 | apply Bd10) | exact HB.out)⟩⟩
      case rest =>
       clear HC42
       try clear c1
       try clear c2
       try clear p2
       try clear c3
       try clear c4
       try clear c5
       try clear c6
       try clear c7
       try clear c8
       try clear c8b0
       try clear c8b1
       try clear c8b2
       try clear c9
       try clear c10
       try clear c12
       try clear c13
       try clear c14
       try clear c16
       try clear c17
       try clear c18
       try clear c18b0
       try clear c18b1
       try clear c21
       try clear c21b0
       try clear c21b1
       try clear c21b2
       try clear c31
       try clear c33
       try clear c37
       try clear c38
       try clear c39
       try clear c40
       try clear c42
       try clear c43
       try clear c48
       try clear c48b0
       try clear c48b1
       try clear c52
       try clear c52b0
       try clear c52b1
       try clear c53
       try clear c54
       try clear c54b0
       try clear c54b1
       try clear c54b2
       try clear c59
       try clear c59b0
       try clear c59b1
       try clear c60
       try clear c60b0
       try clear c60b1
       try clear c60b2
       try clear c65
       try clear c65b0
       try clear c65b1
       try clear c74
       try clear c74b0
       try clear c74b1
       try clear c83
       try clear c83b0
       try clear c83b1
       try clear c83b2
       try clear c88
       try clear c88b0
       try clear c88b1
       try clear c89
       try clear c89b0
       try clear c89b1
       try clear c89b2
       try clear c94
       try clear c94b0
       try clear c94b1
       try clear c95
       try clear c95b0
       try clear c95b1
       try clear c95b2
       try clear c108
       try clear c108b0
       try clear c108b1
       try clear c109
       try clear c109b0
       try clear c109b1
       try clear c109b2
       try clear c122
       try clear c122b0
       try clear c122b1
       try clear c123
       try clear c124
       try clear c124b0
       try clear c124b1
       try clear c124b2
       try clear c129
       try clear c129b0
       try clear c129b1
       try clear c130
       try clear c130b0
       try clear c130b1
       try clear c130b2
       try clear c143
       try clear c143b0
       try clear c143b1
       try clear c143b2
       try clear c148
       try clear c148b0
       try clear c148b1
       try clear c149
       try clear c149b0
       try clear c149b1
       try clear c149b2
       try clear c162
       try clear c162b0
       try clear c162b1
       try clear c163
       try clear c164
       try clear c164b0
       try clear c164b1
       try clear c164b2
       try clear c173
       try clear c173b0
       try clear c173b1
       try clear c173b2
       try clear p2
       obtain ⟨kq, HA, HJ41, HO_3, HO_4, HB⟩ := hcut
       cases kq with
       | zero => exact absurd HA.out (by simp [laws_FnFormulas.j1])
       | succ kj41 =>
        have H := HA.out
        clear HA
        simp only [laws_FnFormulas.j1] at H
        replace H := Option.bind_eq_some_iff.mp H
        obtain ⟨t375, A1860, H⟩ := H
        replace H : (laws_FnFormulas.l0 kj41 t345 t346 t375 0) = some r := H
        have A186 := Am10 A1860
        clear A1860
        have H' := Am10 H
        clear H
        go_wp2_with (first | ((with_reducible refine gate_callee (f := 44) rfl ?_); refine goesL_ (some 108) rfl rfl Try.func44 (by kernel_rfl) rfl #[.slice Ao15 t345.length co15] rfl (by (try simp only [List.map_toArray, List.map_cons, List.map_nil]); first | done | rfl | (simp only [List.length_drop, List.length_take]; rfl)) ?_; (with_reducible refine (impl_LettersIn.calls kj41 _ _ t345 t375 _ ?side1 ?side2 A186.out).mono ?_); (case side1 => repeat (first | exact (Qr10 HO_3.out).2.2 | (with_reducible refine Ca10 ?_ _) | (with_reducible refine Cn10 ?_ _) | (with_reducible refine Cd10 ?_))); (case side2 => exact (Qr10 HO_3.out).2.1); rintro e w187 ⟨v376, rfl, ho0, hb⟩; refine ⟨_, rfl, ?_⟩; have n0_ := Am10 (Kd.Q_elder' (by (with_reducible repeat (first | apply Qa10 | apply Qn10 | apply Qd10)); exact HO_3.out) (Kd.R_base ho0) hb); have n1_ := Am10 (Kd.R_below (by (with_reducible repeat (first | apply Ra10 | apply Rn10 | apply Rd10)); exact HO_4.out) hb); have n2_ := Am10 (Kd.R_lower (Kd.R_new' ho0 (Kd.Q_lt (by (with_reducible repeat (first | apply Qa10 | apply Qn10 | apply Qd10)); exact HO_3.out))) (below_size (by repeat (first | (with_reducible first | exact HB.out | apply Ba10 | apply Bn10 | apply Bd10) | exact HB.out)))); have n3_ := Am10 (below_step (by repeat (first | (with_reducible first | exact HB.out | apply Ba10 | apply Bn10 | apply Bd10) | exact HB.out)) hb); clear HO_3; clear HO_4; clear HB; have HO_3 := n0_; have HO_4 := n1_; have HO377 := n2_; have HB := n3_; clear n0_ n1_ n2_ n3_; (try clear hb); (try clear hb2); (try clear hk); (try clear hi); (try clear ho0)))
        go_loopg [14] kj41 (fun kq v14 w' => ∃ (x4_3 : List Bool) (x14_3 : Int), v14 = .int .i64 x14_3 ∧ Aside0 (laws_FnFormulas.l0 kq t345 x4_3 t375 x14_3 = some r) ∧ Aside0 (kq ≤ kj41) ∧ Aside0 (Kd.Q (Kd.int .i64) 3 w' w.heap.size (fun k_ => some k_ ≠ (v376 : Value).ownBlock) (.slice Ao15 t345.length co15) t345) ∧ Aside0 (Kd.R Kd.bool 4 w' w.heap.size (fun _ => True) v349 x4_3) ∧ Aside0 (Kd.R (Kd.int .i64) 3 w' w.heap.size (fun k_ => some k_ ≠ ((.slice Ao15 t345.length co15) : Value).ownBlock) v376 t375) ∧ Aside0 (Below w.heap.size w w'))
        case atStart => exact ⟨(t346), (0), (by first | rfl | (simp; done) | (simp [*]; done)), H', ⟨Nat.le_refl _⟩, ⟨by (with_reducible repeat (first | apply Qa10 | apply Qn10 | apply Qd10)); exact Kd.Q_mono HO_3.out (fun _ hk => hk.2)⟩, ⟨by (with_reducible repeat (first | apply Ra10 | apply Rn10 | apply Rd10)); exact HO_4.out⟩, ⟨by (with_reducible repeat (first | apply Ra10 | apply Rn10 | apply Rd10)); exact Kd.R_mono HO377.out (fun _ hk => hk.2)⟩, ⟨by repeat (first | (with_reducible first | exact HB.out | apply Ba10 | apply Bn10 | apply Bd10) | exact HB.out)⟩⟩
        case round =>
         clear H'
         try clear c1
         try clear c2
         try clear p2
         try clear c3
         try clear c4
         try clear c5
         try clear c6
         try clear c7
         try clear c8
         try clear c8b0
         try clear c8b1
         try clear c8b2
         try clear c9
         try clear c10
         try clear c12
         try clear c13
         try clear c14
         try clear c16
         try clear c17
         try clear c18
         try clear c18b0
         try clear c18b1
         try clear c21
         try clear c21b0
         try clear c21b1
         try clear c21b2
         try clear c31
         try clear c33
         try clear c37
         try clear c38
         try clear c39
         try clear c40
         try clear c42
         try clear c43
         try clear c44
         try clear c48
         try clear c48b0
         try clear c48b1
         try clear c52
         try clear c52b0
         try clear c52b1
         try clear c53
         try clear c54
         try clear c54b0
         try clear c54b1
         try clear c54b2
         try clear c59
         try clear c59b0
         try clear c59b1
         try clear c60
         try clear c60b0
         try clear c60b1
         try clear c60b2
         try clear c65
         try clear c65b0
         try clear c65b1
         try clear c74
         try clear c74b0
         try clear c74b1
         try clear c83
         try clear c83b0
         try clear c83b1
         try clear c83b2
         try clear c88
         try clear c88b0
         try clear c88b1
         try clear c89
         try clear c89b0
         try clear c89b1
         try clear c89b2
         try clear c94
         try clear c94b0
         try clear c94b1
         try clear c95
         try clear c95b0
         try clear c95b1
         try clear c95b2
         try clear c108
         try clear c108b0
         try clear c108b1
         try clear c109
         try clear c109b0
         try clear c109b1
         try clear c109b2
         try clear c122
         try clear c122b0
         try clear c122b1
         try clear c123
         try clear c124
         try clear c124b0
         try clear c124b1
         try clear c124b2
         try clear c129
         try clear c129b0
         try clear c129b1
         try clear c130
         try clear c130b0
         try clear c130b1
         try clear c130b2
         try clear c143
         try clear c143b0
         try clear c143b1
         try clear c143b2
         try clear c148
         try clear c148b0
         try clear c148b1
         try clear c149
         try clear c149b0
         try clear c149b1
         try clear c149b2
         try clear c162
         try clear c162b0
         try clear c162b1
         try clear c163
         try clear c164
         try clear c164b0
         try clear c164b1
         try clear c164b2
         try clear c173
         try clear c173b0
         try clear c173b1
         try clear c173b2
         try clear p2
         obtain ⟨x4_3, x14_3, rfl, HA, HK3, HO_3, HO_4, HO_13, HB⟩ := hrel
         cases gk with
         | zero => exact absurd HA.out (by simp [laws_FnFormulas.l0])
         | succ k3 =>
          have H := HA.out
          clear HA
          simp only [laws_FnFormulas.l0] at H
          have HC188 := Am10 H
          clear H
          go_upto_region 17 with (fail)
          go_cut [116] (fun v116 wc => ∃ (kq : Nat) (x116_187 : Bool), v116 = .bool x116_187 ∧ Aside0 (laws_FnFormulas.j3 kq t345 x4_3 t375 x14_3 x116_187 = some r) ∧ Aside0 (kq ≤ k3) ∧ Aside0 (Kd.Q (Kd.int .i64) 3 wc w.heap.size (fun k_ => some k_ ≠ (v376 : Value).ownBlock) (.slice Ao15 t345.length co15) t345) ∧ Aside0 (Kd.R Kd.bool 4 wc w.heap.size (fun _ => True) v349 x4_3) ∧ Aside0 (Kd.R (Kd.int .i64) 3 wc w.heap.size (fun k_ => some k_ ≠ ((.slice Ao15 t345.length co15) : Value).ownBlock) v376 t375) ∧ Aside0 (Below w.heap.size w wc))
          case first =>
           have H := HC188.out
           clear HC188
           by_cases c189 : x14_3 < (x4_3.length : Int)
           ·rw [if_pos c189] at H
            have c189b0 : decide (x14_3 < (x4_3.length : Int)) = true := decide_eq_true c189
            clear c189
            (first | rw [c189b0] | (simp only [i64_w, i32_w]; rw [c189b0]) | skip)
            replace H := Option.bind_eq_some_iff.mp H
            obtain ⟨t378, A1900, H⟩ := H
            replace H : (laws_FnFormulas.j3 k3 t345 x4_3 t375 x14_3 t378) = some r := H
            have A190 := Am10 A1900
            clear A1900
            have H' := Am10 H
            clear H
            obtain ⟨Ao191, co191, eo191⟩ := Kd.R_slice HO_4.out
            subst eo191
            go_wp2_with (first | (go_at_call 38; (with_reducible refine (impl_IsFormula.calls k3 _ _ t345 t378 _ ?side1 ?side2 A190.out).mono ?_); (case side1 => repeat (first | exact (Qr10 HO_3.out).2.2 | (with_reducible refine Ca10 ?_ _) | (with_reducible refine Cn10 ?_ _) | (with_reducible refine Cd10 ?_))); (case side2 => exact (Qr10 HO_3.out).2.1); rintro e w192 ⟨rfl, hb⟩; have n0_ := Am10 (Kd.Q_below (by (with_reducible repeat (first | apply Qa10 | apply Qn10 | apply Qd10)); exact HO_3.out) hb); have n1_ := Am10 (Kd.R_below (by (with_reducible repeat (first | apply Ra10 | apply Rn10 | apply Rd10)); exact HO_4.out) hb); have n2_ := Am10 (Kd.R_below (by (with_reducible repeat (first | apply Ra10 | apply Rn10 | apply Rd10)); exact HO_13.out) hb); have n3_ := Am10 (below_step (by repeat (first | (with_reducible first | exact HB.out | apply Ba10 | apply Bn10 | apply Bd10) | exact HB.out)) hb); clear HO_3; clear HO_4; clear HO_13; clear HB; have HO_3 := n0_; have HO_4 := n1_; have HO_13 := n2_; have HB := n3_; clear n0_ n1_ n2_ n3_; (try clear hb); (try clear hb2); (try clear hk); (try clear hi)))
            go_meet
            case rel => exact ⟨_, (t378), (by first | rfl | (simp; done) | (simp [*]; done)), H', ⟨by have := HJ12.out; have := HJ41.out; have := HK3.out; first | omega | exact Nat.le_refl _⟩, ⟨by (with_reducible repeat (first | apply Qa10 | apply Qn10 | apply Qd10)); exact HO_3.out⟩, ⟨by (with_reducible repeat (first | apply Ra10 | apply Rn10 | apply Rd10)); exact HO_4.out⟩, ⟨by (with_reducible repeat (first | apply Ra10 | apply Rn10 | apply Rd10)); exact HO_13.out⟩, ⟨by repeat (first | (with_reducible first | exact HB.out | apply Ba10 | apply Bn10 | apply Bd10) | exact HB.out)⟩⟩
           ·rw [if_neg c189] at H
            have c189b0 : decide (x14_3 < (x4_3.length : Int)) = false := decide_eq_false c189
            clear c189
            (first | rw [c189b0] | (simp only [i64_w, i32_w]; rw [c189b0]) | skip)
            have H' := Am10 H
            clear H
            obtain ⟨Ao193, co193, eo193⟩ := Kd.R_slice HO_4.out
            subst eo193
            go_wp2
            go_meet
            case rel => exact ⟨_, (false), (by first | rfl | (simp; done) | (simp [*]; done)), H', ⟨by have := HJ12.out; have := HJ41.out; have := HK3.out; first | omega | exact Nat.le_refl _⟩, ⟨by (with_reducible repeat (first | apply Qa10 | apply Qn10 | apply Qd10)); exact HO_3.out⟩, ⟨by (with_reducible repeat (first | apply Ra10 | apply Rn10 | apply Rd10)); exact HO_4.out⟩, ⟨by (with_reducible repeat (first | apply Ra10 | apply Rn10 | apply Rd10)); exact HO_13.out⟩, ⟨by repeat (first | (with_reducible first | exact HB.out | apply Ba10 | apply Bn10 | apply Bd10) | exact HB.out)⟩⟩
          case rest =>
           clear HC188
           try clear c1
           try clear c2
           try clear p2
           try clear c3
           try clear c4
           try clear c5
           try clear c6
           try clear c7
           try clear c8
           try clear c8b0
           try clear c8b1
           try clear c8b2
           try clear c9
           try clear c10
           try clear c12
           try clear c13
           try clear c14
           try clear c16
           try clear c17
           try clear c18
           try clear c18b0
           try clear c18b1
           try clear c21
           try clear c21b0
           try clear c21b1
           try clear c21b2
           try clear c31
           try clear c33
           try clear c37
           try clear c38
           try clear c39
           try clear c40
           try clear c42
           try clear c43
           try clear c44
           try clear c48
           try clear c48b0
           try clear c48b1
           try clear c52
           try clear c52b0
           try clear c52b1
           try clear c53
           try clear c54
           try clear c54b0
           try clear c54b1
           try clear c54b2
           try clear c59
           try clear c59b0
           try clear c59b1
           try clear c60
           try clear c60b0
           try clear c60b1
           try clear c60b2
           try clear c65
           try clear c65b0
           try clear c65b1
           try clear c74
           try clear c74b0
           try clear c74b1
           try clear c83
           try clear c83b0
           try clear c83b1
           try clear c83b2
           try clear c88
           try clear c88b0
           try clear c88b1
           try clear c89
           try clear c89b0
           try clear c89b1
           try clear c89b2
           try clear c94
           try clear c94b0
           try clear c94b1
           try clear c95
           try clear c95b0
           try clear c95b1
           try clear c95b2
           try clear c108
           try clear c108b0
           try clear c108b1
           try clear c109
           try clear c109b0
           try clear c109b1
           try clear c109b2
           try clear c122
           try clear c122b0
           try clear c122b1
           try clear c123
           try clear c124
           try clear c124b0
           try clear c124b1
           try clear c124b2
           try clear c129
           try clear c129b0
           try clear c129b1
           try clear c130
           try clear c130b0
           try clear c130b1
           try clear c130b2
           try clear c143
           try clear c143b0
           try clear c143b1
           try clear c143b2
           try clear c148
           try clear c148b0
           try clear c148b1
           try clear c149
           try clear c149b0
           try clear c149b1
           try clear c149b2
           try clear c162
           try clear c162b0
           try clear c162b1
           try clear c163
           try clear c164
           try clear c164b0
           try clear c164b1
           try clear c164b2
           try clear c173
           try clear c173b0
           try clear c173b1
           try clear c173b2
           try clear c189
           try clear c189b0
           try clear p2
           obtain ⟨kq, x116_187, rfl, HA, HJ187, HO_3, HO_4, HO_13, HB⟩ := hcut
           cases kq with
           | zero => exact absurd HA.out (by simp [laws_FnFormulas.j3])
           | succ kj187 =>
            have H := HA.out
            clear HA
            simp only [laws_FnFormulas.j3] at H
            by_cases c194 : x116_187 = true
            ·subst c194
             have H1 : ((some (([] : List Bool) : List Bool)).bind fun y380 => (if y380.length + x4_3.length < 140737488355328 then ((some (y380 ++ x4_3 : List Bool)).bind fun y383 => (if 0 ≤ x14_3 then (if x14_3 < (y383.length : Int) then ((laws_contains.f kj187 t375 x14_3).bind fun t388 => (if t388 = true then (laws_FnFormulas.l0 kj187 t345 x4_3 t375 (wrap64 (x14_3 + 1))) else ((impl_Value.f kj187 t345 (y383.set (x14_3 : Int).toNat (!(rdOf false y383 x14_3)))).bind fun t389 => ((impl_Value.f kj187 t345 x4_3).bind fun t390 => (if (t389 != t390) = true then (some false) else (laws_FnFormulas.l0 kj187 t345 x4_3 t375 (wrap64 (x14_3 + 1)))))))) else (none)) else (none))) else (none))) = some r := by rw [if_pos rfl] at H; exact H
             clear H
             have H := H1
             clear H1
             obtain ⟨y380, hy380⟩ : ∃ y_ : List Bool, y_ = (([] : List Bool)) := ⟨_, rfl⟩
             replace H : (if y380.length + x4_3.length < 140737488355328 then ((some (y380 ++ x4_3 : List Bool)).bind fun y383 => (if 0 ≤ x14_3 then (if x14_3 < (y383.length : Int) then ((laws_contains.f kj187 t375 x14_3).bind fun t388 => (if t388 = true then (laws_FnFormulas.l0 kj187 t345 x4_3 t375 (wrap64 (x14_3 + 1))) else ((impl_Value.f kj187 t345 (y383.set (x14_3 : Int).toNat (!(rdOf false y383 x14_3)))).bind fun t389 => ((impl_Value.f kj187 t345 x4_3).bind fun t390 => (if (t389 != t390) = true then (some false) else (laws_FnFormulas.l0 kj187 t345 x4_3 t375 (wrap64 (x14_3 + 1)))))))) else (none)) else (none))) else (none)) = some r := by first | (rw [hy380]; with_reducible exact H) | (have H2_ := (Option.bind_some _ _).symm.trans H; rw [hy380]; with_reducible exact H2_) | (have H2_ := (Option.bind_some _ _).symm.trans H; with_reducible exact H2_) | with_reducible exact H | (rw [hy380]; exact H) | exact H
             have Ny380 := Am10 hy380
             clear hy380
             by_cases c195 : y380.length + x4_3.length < 140737488355328
             ·rw [if_pos c195] at H
              have LMc195 := Am10 c195
              clear c195
              obtain ⟨y383, hy383⟩ : ∃ y_ : List Bool, y_ = (y380 ++ x4_3) := ⟨_, rfl⟩
              replace H : (if 0 ≤ x14_3 then (if x14_3 < (y383.length : Int) then ((laws_contains.f kj187 t375 x14_3).bind fun t388 => (if t388 = true then (laws_FnFormulas.l0 kj187 t345 x4_3 t375 (wrap64 (x14_3 + 1))) else ((impl_Value.f kj187 t345 (y383.set (x14_3 : Int).toNat (!(rdOf false y383 x14_3)))).bind fun t389 => ((impl_Value.f kj187 t345 x4_3).bind fun t390 => (if (t389 != t390) = true then (some false) else (laws_FnFormulas.l0 kj187 t345 x4_3 t375 (wrap64 (x14_3 + 1)))))))) else (none)) else (none)) = some r := by first | (rw [hy383]; with_reducible exact H) | (have H2_ := (Option.bind_some _ _).symm.trans H; rw [hy383]; with_reducible exact H2_) | (have H2_ := (Option.bind_some _ _).symm.trans H; with_reducible exact H2_) | with_reducible exact H | (rw [hy383]; exact H) | exact H
              have Ny383 := Am10 hy383
              clear hy383
              by_cases c196 : 0 ≤ x14_3
              ·rw [if_pos c196] at H
               have c196b0 : decide (0 ≤ x14_3) = true := decide_eq_true c196
               clear c196
               by_cases c197 : x14_3 < (y383.length : Int)
               ·rw [if_pos c197] at H
                have c197b0 : decide (x14_3 < (y383.length : Int)) = true := decide_eq_true c197
                clear c197
                obtain ⟨y387, hy387⟩ : ∃ y_ : List Bool, y_ = (y383.set (x14_3 : Int).toNat (!(rdOf false y383 x14_3))) := ⟨_, rfl⟩
                replace H : ((laws_contains.f kj187 t375 x14_3).bind fun t388 => (if t388 = true then (laws_FnFormulas.l0 kj187 t345 x4_3 t375 (wrap64 (x14_3 + 1))) else ((impl_Value.f kj187 t345 y387).bind fun t389 => ((impl_Value.f kj187 t345 x4_3).bind fun t390 => (if (t389 != t390) = true then (some false) else (laws_FnFormulas.l0 kj187 t345 x4_3 t375 (wrap64 (x14_3 + 1)))))))) = some r := by first | (rw [hy387]; with_reducible exact H) | (have H2_ := (Option.bind_some _ _).symm.trans H; rw [hy387]; with_reducible exact H2_) | (have H2_ := (Option.bind_some _ _).symm.trans H; with_reducible exact H2_) | with_reducible exact H | (rw [hy387]; exact H) | exact H
                have Ny387 := Am10 hy387
                clear hy387
                replace H := Option.bind_eq_some_iff.mp H
                obtain ⟨t388, A1990, H⟩ := H
                replace H : (if t388 = true then (laws_FnFormulas.l0 kj187 t345 x4_3 t375 (wrap64 (x14_3 + 1))) else ((impl_Value.f kj187 t345 y387).bind fun t389 => ((impl_Value.f kj187 t345 x4_3).bind fun t390 => (if (t389 != t390) = true then (some false) else (laws_FnFormulas.l0 kj187 t345 x4_3 t375 (wrap64 (x14_3 + 1))))))) = some r := H
                have A199 := Am10 A1990
                clear A1990
                by_cases c200 : t388 = true
                ·subst c200
                 have H1 : (laws_FnFormulas.l0 kj187 t345 x4_3 t375 (wrap64 (x14_3 + 1))) = some r := by rw [if_pos rfl] at H; exact H
                 clear H
                 have H := H1
                 clear H1
                 have H' := Am10 H
                 clear H
                 go_wp2_with (first | ((with_reducible refine gate_dst (N := 119) rfl ?_); refine Kd.R_lit Kd.bool _ 4 ?hg (N := 119) ?hd (xs := ([] : List Bool)) (inner := []) (ok := fun _ => True) (okp := fun _ => True) ?hr ?hp (fun _ hk => hk) trivial (Below.refl _ _) (Nat.le_refl _) (by simp) ?_; (case hd => rfl); (case hg => rfl); (case hr => first | (go_simp; done) | (go_simp; rfl)); (case hp => exact (Reps.none _ _)); intro v381 w201 ho202 hb hg_ hnew_; clear hg_ hnew_; (first | rw [← Ny380.out] at ho202 | (simp only [Int.reduceToNat] at ho202; rw [← Ny380.out] at ho202)); have n0_ := Am10 (Kd.Q_below (by (with_reducible repeat (first | apply Qa10 | apply Qn10 | apply Qd10)); exact HO_3.out) hb); have n1_ := Am10 (Kd.R_elder' (by (with_reducible repeat (first | apply Ra10 | apply Rn10 | apply Rd10)); exact HO_4.out) (Kd.R_base ho202) hb); have n2_ := Am10 (Kd.R_below (by (with_reducible repeat (first | apply Ra10 | apply Rn10 | apply Rd10)); exact HO_13.out) hb); have n3_ := Am10 (Kd.R_lower (Kd.R_new' ho202 (Kd.R_lt (by (with_reducible repeat (first | apply Ra10 | apply Rn10 | apply Rd10)); exact HO_4.out))) (below_size (by repeat (first | (with_reducible first | exact HB.out | apply Ba10 | apply Bn10 | apply Bd10) | exact HB.out)))); have n4_ := Am10 (below_step (by repeat (first | (with_reducible first | exact HB.out | apply Ba10 | apply Bn10 | apply Bd10) | exact HB.out)) hb); clear HO_3; clear HO_4; clear HO_13; clear HB; have HO_3 := n0_; have HO_4 := n1_; have HO_13 := n2_; have HO382 := n3_; have HB := n4_; clear n0_ n1_ n2_ n3_ n4_; clear hb ho202; obtain ⟨Ao204, co204, eo204⟩ := Kd.R_slice HO_4.out; subst eo204) | ((with_reducible refine gate_builtin (b := .append) (xs := #[.tmp 119, .tmp 120]) rfl ?_); at_builtin; refine Kd.R_append_rows Kd.bool (w0 := w) w.heap.size rfl (.tmp 119) (.tmp 120) 40 4 (.bool false) 1 rfl Try.underlying40 info4 rfl (by decide) (by omega) v381 y380 x4_3 _ _ _ (fun k_ => some k_ ≠ (.slice Ao204 x4_3.length co204 : Value).ownBlock) (fun _ => False) rfl rfl ?aO ?aR (fun _ _ h => h) (fun _ h => h.elim) ?aF ?aB ?aS ?aL ?_; (case aR => repeat (first | exact (Rr10 HO_4.out).2.2 | (with_reducible refine Ca10 ?_ _) | (with_reducible refine Cn10 ?_ _) | (with_reducible refine Cd10 ?_))); (case aB => exact (by repeat (first | (with_reducible first | exact HB.out | apply Ba10 | apply Bn10 | apply Bd10) | exact HB.out))); (case aF => exact (fun k_ hk => Kd.fresh' (Kd.R_lt (by (with_reducible repeat (first | apply Ra10 | apply Rn10 | apply Rd10)); exact HO_4.out)) k_ hk)); (case aO => exact (by (with_reducible repeat (first | apply Ra10 | apply Rn10 | apply Rd10)); exact Kd.R_mono HO382.out (fun _ hk => hk.2))); (case aS => exact (below_size (by repeat (first | (with_reducible first | exact HB.out | apply Ba10 | apply Bn10 | apply Bd10) | exact HB.out)))); (case aL => have := LMc195.out; omega); intro v384 w203 ho hb hg hat; rw [← Ny383.out] at ho; have n0_ := Am10 (Kd.Q_over' (by (with_reducible repeat (first | apply Qa10 | apply Qn10 | apply Qd10)); exact HO_3.out) (Kd.R_typed (by (with_reducible repeat (first | apply Ra10 | apply Rn10 | apply Rd10)); exact HO382.out)) (by decide) hg); have n1_ := Am10 (Kd.R_after (ok := (fun _ => True)) (by (with_reducible repeat (first | apply Ra10 | apply Rn10 | apply Rd10)); exact HO_4.out) hg hat); have n2_ := Am10 (Kd.R_over' (by (with_reducible repeat (first | apply Ra10 | apply Rn10 | apply Rd10)); exact HO_13.out) (Kd.R_typed (by (with_reducible repeat (first | apply Ra10 | apply Rn10 | apply Rd10)); exact HO382.out)) (by decide) hg); have n3_ := Am10 (hb); have n4_ := Am10 (ho); clear HO_3; clear HO_4; clear HO_13; clear HB; clear HO382; have HO_3 := n0_; have HO_4 := n1_; have HO_13 := n2_; have HB := n3_; have HO385 := n4_; clear n0_ n1_ n2_ n3_ n4_; clear ho hb hg hat; obtain ⟨Ao205, co205, eo205⟩ := Kd.R_slice HO385.out; subst eo205; have p386 : 0 ≤ (x14_3 : Int) := of_decide_eq_true (by first | (with_reducible assumption) | assumption); have q386 : x14_3 < (y383.length : Int) := of_decide_eq_true (by first | (with_reducible assumption) | assumption); obtain ⟨ad386, e386, hx386_0⟩ := Kd.at_bool (Rr10 HO385.out).2.2 x14_3 p386 q386; cases e386; replace p386 := eq_true p386; replace q386 := eq_true q386; have p198 : 0 ≤ (x14_3 : Int) := of_decide_eq_true (by first | (with_reducible assumption) | assumption); have q198 : (x14_3 : Int) < ((y383.length : Int) : Int) := of_decide_eq_true (by first | (with_reducible assumption) | assumption); obtain ⟨go198, co198, eo198, gb198, gl198, cl198, HG198⟩ := Kd.R_form HO385.out (by omega); (first | cases eo198 | (injection eo198 with ea_ en_ ec_; (first | subst ea_ | (injection ea_ with ea_; subst ea_)); subst ec_; clear en_)); have GB198 := Am10 gb198; have GG198 := Am10 HG198; clear gb198 gl198 HG198; (first | simp only [add_plain] at hx386_0 | skip); obtain ⟨hx198_0, hf198_0⟩ := Kd.R_celln false HO385.out (x14_3 : Int) p198 q198; replace p198 := eq_true p198; replace q198 := eq_true q198; obtain ⟨hy206_, hz206_⟩ := Kd.R_celln false HO385.out (x14_3 : Int) (of_decide_eq_true (by first | (with_reducible assumption) | assumption)) (of_decide_eq_true (by first | (with_reducible assumption) | assumption)); have HP206 := Kd.R_putg HO385.out (x14_3 : Int) (!(rdOf false y383 x14_3))) | ((with_reducible refine gate_store (t := 4) (p := 129) rfl ?_); refine store_event (t := 4) (p := 129) (v := ?vo_w207) (w1 := (w203.setCell ⟨go198, (x14_3 : Int).toNat, none⟩ (.bool (!(rdOf false y383 x14_3))))) ?hg ?ho ?hn ?hr ?_; (case ho => rfl); (case hg => rfl); (case hn => rfl); (case hr => first | (go_simp; done) | (go_simp; rfl)); intro w207 hw; have hg : w203.grownBy w207 (some go198) := (by rw [hw]; exact HP206.2); have hp_ : Kd.R Kd.bool 4 w207 w.heap.size (fun k_ => some k_ ≠ (.slice Ao204 x4_3.length co204 : Value).ownBlock) (.slice (some ⟨go198, 0, none⟩) y383.length co205) y387 := (by rw [hw, Ny387.out]; exact HP206.1); clear HP206; have n0_ := Am10 (Kd.Q_over' (v := (.slice (some ⟨go198, 0, none⟩) y383.length co205)) (by (with_reducible repeat (first | apply Qa10 | apply Qn10 | apply Qd10)); exact HO_3.out) (Kd.R_typed HO385.out) (by decide) hg); have n1_ := Am10 (Kd.R_after (v := (.slice (some ⟨go198, 0, none⟩) y383.length co205)) (v1 := (.slice (some ⟨go198, 0, none⟩) y383.length co205)) (ok := (fun _ => True)) (by (with_reducible repeat (first | apply Ra10 | apply Rn10 | apply Rd10)); exact HO_4.out) hg (.inl rfl)); have n2_ := Am10 (Kd.R_over' (v := (.slice (some ⟨go198, 0, none⟩) y383.length co205)) (by (with_reducible repeat (first | apply Ra10 | apply Rn10 | apply Rd10)); exact HO_13.out) (Kd.R_typed HO385.out) (by decide) hg); have n4_ := Am10 ((by rw [hw]; exact below_set (HB.out) GB198.out : Below w.heap.size w w207)); (try clear HO385); clear HO_3; clear HO_4; clear HO_13; clear HB; have HO_3 := n0_; have HO_4 := n1_; have HO_13 := n2_; have HB := n4_; clear n0_ n1_ n2_ n4_; clear hg hw hp_; obtain ⟨Ao208, co208, eo208⟩ := Kd.R_slice HO_13.out; subst eo208) | ((with_reducible refine gate_callee (f := 45) rfl ?_); refine goesL_ (some 132) rfl rfl Try.func45 (by kernel_rfl) rfl #[.slice Ao208 t375.length co208, .int .i64 x14_3] rfl (by (try simp only [List.map_toArray, List.map_cons, List.map_nil]); first | done | rfl | (simp only [List.length_drop, List.length_take]; rfl)) ?_; (with_reducible refine (laws_contains.calls kj187 _ _ t375 x14_3 true _ ?side1 ?side2 A199.out).mono ?_); (case side1 => repeat (first | exact (Rr10 HO_13.out).2.2 | (with_reducible refine Ca10 ?_ _) | (with_reducible refine Cn10 ?_ _) | (with_reducible refine Cd10 ?_))); (case side2 => exact (Rr10 HO_13.out).2.1); rintro e w' ⟨rfl, ⟨nd, rfl⟩⟩; refine ⟨_, rfl, ?_⟩))
                 go_roundg kj187
                 case measure => have := HJ12.out; have := HJ41.out; have := HK3.out; have := HJ187.out; omega
                 case rel => exact ⟨(x4_3), (wrap64 (x14_3 + 1)), (by first | rfl | (simp; done) | (simp [*]; done)), H', ⟨by have := HJ12.out; have := HJ41.out; have := HK3.out; have := HJ187.out; omega⟩, ⟨by (with_reducible repeat (first | apply Qa10 | apply Qn10 | apply Qd10)); exact HO_3.out⟩, ⟨by (with_reducible repeat (first | apply Ra10 | apply Rn10 | apply Rd10)); exact Kd.R_mono HO_4.out (fun _ hk => trivial)⟩, ⟨by (with_reducible repeat (first | apply Ra10 | apply Rn10 | apply Rd10)); exact HO_13.out⟩, ⟨by repeat (first | (with_reducible first | exact HB.out | apply Ba10 | apply Bn10 | apply Bd10) | exact HB.out)⟩⟩
                ·replace c200 := Bool.eq_false_iff.mpr c200
                 subst c200
                 have H1 : ((impl_Value.f kj187 t345 y387).bind fun t389 => ((impl_Value.f kj187 t345 x4_3).bind fun t390 => (if (t389 != t390) = true then (some false) else (laws_FnFormulas.l0 kj187 t345 x4_3 t375 (wrap64 (x14_3 + 1)))))) = some r := by rw [if_neg (show ¬ (false = true) by decide)] at H; exact H
                 clear H
                 have H := H1
                 clear H1
                 replace H := Option.bind_eq_some_iff.mp H
                 obtain ⟨t389, A2090, H⟩ := H
                 replace H : ((impl_Value.f kj187 t345 x4_3).bind fun t390 => (if (t389 != t390) = true then (some false) else (laws_FnFormulas.l0 kj187 t345 x4_3 t375 (wrap64 (x14_3 + 1))))) = some r := H
                 have A209 := Am10 A2090
                 clear A2090
                 replace H := Option.bind_eq_some_iff.mp H
                 obtain ⟨t390, A2100, H⟩ := H
                 replace H : (if (t389 != t390) = true then (some false) else (laws_FnFormulas.l0 kj187 t345 x4_3 t375 (wrap64 (x14_3 + 1)))) = some r := H
                 have A210 := Am10 A2100
                 clear A2100
                 by_cases c211 : (t389 != t390) = true
                 ·rw [if_pos c211] at H
                  have c211b0 : (t389 != t390) = true := c211
                  (try (have c211b1 : decide (t389 = t390) = false := by simpa using c211))
                  (try (have c211b2 : (t389 == t390) = false := by simpa using c211))
                  (try (have c211b3 : ¬ (t389 = t390) := by simpa using c211))
                  clear c211
                  obtain rfl := Option.some.inj H
                  go_wp2_with (first | ((with_reducible refine gate_dst (N := 119) rfl ?_); refine Kd.R_lit Kd.bool _ 4 ?hg (N := 119) ?hd (xs := ([] : List Bool)) (inner := []) (ok := fun _ => True) (okp := fun _ => True) ?hr ?hp (fun _ hk => hk) trivial (Below.refl _ _) (Nat.le_refl _) (by simp) ?_; (case hd => rfl); (case hg => rfl); (case hr => first | (go_simp; done) | (go_simp; rfl)); (case hp => exact (Reps.none _ _)); intro v381 w212 ho213 hb hg_ hnew_; clear hg_ hnew_; (first | rw [← Ny380.out] at ho213 | (simp only [Int.reduceToNat] at ho213; rw [← Ny380.out] at ho213)); have n0_ := Am10 (Kd.Q_below (by (with_reducible repeat (first | apply Qa10 | apply Qn10 | apply Qd10)); exact HO_3.out) hb); have n1_ := Am10 (Kd.R_elder' (by (with_reducible repeat (first | apply Ra10 | apply Rn10 | apply Rd10)); exact HO_4.out) (Kd.R_base ho213) hb); have n2_ := Am10 (Kd.R_below (by (with_reducible repeat (first | apply Ra10 | apply Rn10 | apply Rd10)); exact HO_13.out) hb); have n3_ := Am10 (Kd.R_lower (Kd.R_new' ho213 (Kd.R_lt (by (with_reducible repeat (first | apply Ra10 | apply Rn10 | apply Rd10)); exact HO_4.out))) (below_size (by repeat (first | (with_reducible first | exact HB.out | apply Ba10 | apply Bn10 | apply Bd10) | exact HB.out)))); have n4_ := Am10 (below_step (by repeat (first | (with_reducible first | exact HB.out | apply Ba10 | apply Bn10 | apply Bd10) | exact HB.out)) hb); clear HO_3; clear HO_4; clear HO_13; clear HB; have HO_3 := n0_; have HO_4 := n1_; have HO_13 := n2_; have HO382 := n3_; have HB := n4_; clear n0_ n1_ n2_ n3_ n4_; clear hb ho213; obtain ⟨Ao215, co215, eo215⟩ := Kd.R_slice HO_4.out; subst eo215) | ((with_reducible refine gate_builtin (b := .append) (xs := #[.tmp 119, .tmp 120]) rfl ?_); at_builtin; refine Kd.R_append_rows Kd.bool (w0 := w) w.heap.size rfl (.tmp 119) (.tmp 120) 40 4 (.bool false) 1 rfl Try.underlying40 info4 rfl (by decide) (by omega) v381 y380 x4_3 _ _ _ (fun k_ => some k_ ≠ (.slice Ao215 x4_3.length co215 : Value).ownBlock) (fun _ => False) rfl rfl ?aO ?aR (fun _ _ h => h) (fun _ h => h.elim) ?aF ?aB ?aS ?aL ?_; (case aR => repeat (first | exact (Rr10 HO_4.out).2.2 | (with_reducible refine Ca10 ?_ _) | (with_reducible refine Cn10 ?_ _) | (with_reducible refine Cd10 ?_))); (case aB => exact (by repeat (first | (with_reducible first | exact HB.out | apply Ba10 | apply Bn10 | apply Bd10) | exact HB.out))); (case aF => exact (fun k_ hk => Kd.fresh' (Kd.R_lt (by (with_reducible repeat (first | apply Ra10 | apply Rn10 | apply Rd10)); exact HO_4.out)) k_ hk)); (case aO => exact (by (with_reducible repeat (first | apply Ra10 | apply Rn10 | apply Rd10)); exact Kd.R_mono HO382.out (fun _ hk => hk.2))); (case aS => exact (below_size (by repeat (first | (with_reducible first | exact HB.out | apply Ba10 | apply Bn10 | apply Bd10) | exact HB.out)))); (case aL => have := LMc195.out; omega); intro v384 w214 ho hb hg hat; rw [← Ny383.out] at ho; have n0_ := Am10 (Kd.Q_over' (by (with_reducible repeat (first | apply Qa10 | apply Qn10 | apply Qd10)); exact HO_3.out) (Kd.R_typed (by (with_reducible repeat (first | apply Ra10 | apply Rn10 | apply Rd10)); exact HO382.out)) (by decide) hg); have n1_ := Am10 (Kd.R_after (ok := (fun _ => True)) (by (with_reducible repeat (first | apply Ra10 | apply Rn10 | apply Rd10)); exact HO_4.out) hg hat); have n2_ := Am10 (Kd.R_over' (by (with_reducible repeat (first | apply Ra10 | apply Rn10 | apply Rd10)); exact HO_13.out) (Kd.R_typed (by (with_reducible repeat (first | apply Ra10 | apply Rn10 | apply Rd10)); exact HO382.out)) (by decide) hg); have n3_ := Am10 (hb); have n4_ := Am10 (ho); clear HO_3; clear HO_4; clear HO_13; clear HB; clear HO382; have HO_3 := n0_; have HO_4 := n1_; have HO_13 := n2_; have HB := n3_; have HO385 := n4_; clear n0_ n1_ n2_ n3_ n4_; clear ho hb hg hat; obtain ⟨Ao216, co216, eo216⟩ := Kd.R_slice HO385.out; subst eo216; have p386 : 0 ≤ (x14_3 : Int) := of_decide_eq_true (by first | (with_reducible assumption) | assumption); have q386 : x14_3 < (y383.length : Int) := of_decide_eq_true (by first | (with_reducible assumption) | assumption); obtain ⟨ad386, e386, hx386_0⟩ := Kd.at_bool (Rr10 HO385.out).2.2 x14_3 p386 q386; cases e386; replace p386 := eq_true p386; replace q386 := eq_true q386; have p198 : 0 ≤ (x14_3 : Int) := of_decide_eq_true (by first | (with_reducible assumption) | assumption); have q198 : (x14_3 : Int) < ((y383.length : Int) : Int) := of_decide_eq_true (by first | (with_reducible assumption) | assumption); obtain ⟨go198, co198, eo198, gb198, gl198, cl198, HG198⟩ := Kd.R_form HO385.out (by omega); (first | cases eo198 | (injection eo198 with ea_ en_ ec_; (first | subst ea_ | (injection ea_ with ea_; subst ea_)); subst ec_; clear en_)); have GB198 := Am10 gb198; have GG198 := Am10 HG198; clear gb198 gl198 HG198; (first | simp only [add_plain] at hx386_0 | skip); obtain ⟨hx198_0, hf198_0⟩ := Kd.R_celln false HO385.out (x14_3 : Int) p198 q198; replace p198 := eq_true p198; replace q198 := eq_true q198; obtain ⟨hy217_, hz217_⟩ := Kd.R_celln false HO385.out (x14_3 : Int) (of_decide_eq_true (by first | (with_reducible assumption) | assumption)) (of_decide_eq_true (by first | (with_reducible assumption) | assumption)); have HP217 := Kd.R_putg HO385.out (x14_3 : Int) (!(rdOf false y383 x14_3))) | ((with_reducible refine gate_store (t := 4) (p := 129) rfl ?_); refine store_event (t := 4) (p := 129) (v := ?vo_w218) (w1 := (w214.setCell ⟨go198, (x14_3 : Int).toNat, none⟩ (.bool (!(rdOf false y383 x14_3))))) ?hg ?ho ?hn ?hr ?_; (case ho => rfl); (case hg => rfl); (case hn => rfl); (case hr => first | (go_simp; done) | (go_simp; rfl)); intro w218 hw; have hg : w214.grownBy w218 (some go198) := (by rw [hw]; exact HP217.2); have hp_ : Kd.R Kd.bool 4 w218 w.heap.size (fun k_ => some k_ ≠ (.slice Ao215 x4_3.length co215 : Value).ownBlock) (.slice (some ⟨go198, 0, none⟩) y383.length co216) y387 := (by rw [hw, Ny387.out]; exact HP217.1); clear HP217; have n0_ := Am10 (Kd.Q_over' (v := (.slice (some ⟨go198, 0, none⟩) y383.length co216)) (by (with_reducible repeat (first | apply Qa10 | apply Qn10 | apply Qd10)); exact HO_3.out) (Kd.R_typed HO385.out) (by decide) hg); have n1_ := Am10 (Kd.R_after (v := (.slice (some ⟨go198, 0, none⟩) y383.length co216)) (v1 := (.slice (some ⟨go198, 0, none⟩) y383.length co216)) (ok := (fun _ => True)) (by (with_reducible repeat (first | apply Ra10 | apply Rn10 | apply Rd10)); exact HO_4.out) hg (.inl rfl)); have n2_ := Am10 (Kd.R_over' (v := (.slice (some ⟨go198, 0, none⟩) y383.length co216)) (by (with_reducible repeat (first | apply Ra10 | apply Rn10 | apply Rd10)); exact HO_13.out) (Kd.R_typed HO385.out) (by decide) hg); have n3_ := Am10 (hp_); have n4_ := Am10 ((by rw [hw]; exact below_set (HB.out) GB198.out : Below w.heap.size w w218)); clear HO_3; clear HO_4; clear HO_13; clear HO385; clear HB; have HO_3 := n0_; have HO_4 := n1_; have HO_13 := n2_; have HO385 := n3_; have HB := n4_; clear n0_ n1_ n2_ n3_ n4_; clear hg hw hp_; obtain ⟨Ao219, co219, eo219⟩ := Kd.R_slice HO_13.out; subst eo219) | ((with_reducible refine gate_callee (f := 45) rfl ?_); refine goesL_ (some 132) rfl rfl Try.func45 (by kernel_rfl) rfl #[.slice Ao219 t375.length co219, .int .i64 x14_3] rfl (by (try simp only [List.map_toArray, List.map_cons, List.map_nil]); first | done | rfl | (simp only [List.length_drop, List.length_take]; rfl)) ?_; (with_reducible refine (laws_contains.calls kj187 _ _ t375 x14_3 false _ ?side1 ?side2 A199.out).mono ?_); (case side1 => repeat (first | exact (Rr10 HO_13.out).2.2 | (with_reducible refine Ca10 ?_ _) | (with_reducible refine Cn10 ?_ _) | (with_reducible refine Cd10 ?_))); (case side2 => exact (Rr10 HO_13.out).2.1); rintro e w' ⟨rfl, ⟨nd, rfl⟩⟩; refine ⟨_, rfl, ?_⟩) | (go_at_call 40; refine calls_of_args (args' := #[.slice Ao15 t345.length co15, .slice (some ⟨go198, 0, none⟩) y387.length co216]) (by first | (rw [show y387.length = y383.length from (Rr10 HO385.out).1.symm] <;> rfl) | rfl) ?_; (with_reducible refine (impl_Value.calls kj187 _ _ t345 _ _ y387 t389 _ ?side1 ?side2 ?side3 ?side4 A209.out).mono ?_); (case side1 => repeat (first | exact (Qr10 HO_3.out).2.2 | (with_reducible refine Ca10 ?_ _) | (with_reducible refine Cn10 ?_ _) | (with_reducible refine Cd10 ?_))); (case side2 => exact (Qr10 HO_3.out).2.1); (case side3 => repeat (first | exact (Rr10 HO385.out).2.2 | (with_reducible refine Ca10 ?_ _) | (with_reducible refine Cn10 ?_ _) | (with_reducible refine Cd10 ?_))); (case side4 => rw [show y387.length = y383.length from (Rr10 HO385.out).1.symm]; exact (Rr10 HO385.out).2.1); rintro e w220 ⟨rfl, hb⟩; have n0_ := Am10 (Kd.Q_below (by (with_reducible repeat (first | apply Qa10 | apply Qn10 | apply Qd10)); exact HO_3.out) hb); have n1_ := Am10 (Kd.R_below (by (with_reducible repeat (first | apply Ra10 | apply Rn10 | apply Rd10)); exact HO_4.out) hb); have n4_ := Am10 (below_step (by repeat (first | (with_reducible first | exact HB.out | apply Ba10 | apply Bn10 | apply Bd10) | exact HB.out)) hb); (try clear HO_13); (try clear HO385); clear HO_3; clear HO_4; clear HB; have HO_3 := n0_; have HO_4 := n1_; have HB := n4_; clear n0_ n1_ n4_; (try clear hb); (try clear hb2); (try clear hk); (try clear hi)) | (go_at_call 40; (with_reducible refine (impl_Value.calls kj187 _ _ t345 _ _ x4_3 t390 _ ?side1 ?side2 ?side3 ?side4 A210.out).mono ?_); (case side1 => repeat (first | exact (Qr10 HO_3.out).2.2 | (with_reducible refine Ca10 ?_ _) | (with_reducible refine Cn10 ?_ _) | (with_reducible refine Cd10 ?_))); (case side2 => exact (Qr10 HO_3.out).2.1); (case side3 => repeat (first | exact (Rr10 HO_4.out).2.2 | (with_reducible refine Ca10 ?_ _) | (with_reducible refine Cn10 ?_ _) | (with_reducible refine Cd10 ?_))); (case side4 => exact (Rr10 HO_4.out).2.1); rintro e w221 ⟨rfl, hb⟩; have n4_ := Am10 (below_step (by repeat (first | (with_reducible first | exact HB.out | apply Ba10 | apply Bn10 | apply Bd10) | exact HB.out)) hb); (try clear HO_3); (try clear HO_4); (try clear HO_13); (try clear HO385); clear HB; have HB := n4_; clear n4_; (try clear hb); (try clear hb2); (try clear hk); (try clear hi)))
                  all_goals go_ret
                  all_goals exact ⟨by first | rfl | (simp [errW_none, errW_some] <;> rfl) | (simp [*, errW_none, errW_some] <;> rfl), by repeat (first | (with_reducible first | exact HB.out | apply Ba10 | apply Bn10 | apply Bd10) | exact HB.out)⟩
                 ·rw [if_neg c211] at H
                  have c211b0 : (t389 != t390) = false := by simpa using c211
                  (try (have c211b1 : decide (t389 = t390) = true := by simpa using c211))
                  (try (have c211b2 : (t389 == t390) = true := by simpa using c211))
                  clear c211
                  have H' := Am10 H
                  clear H
                  go_wp2_with (first | ((with_reducible refine gate_dst (N := 119) rfl ?_); refine Kd.R_lit Kd.bool _ 4 ?hg (N := 119) ?hd (xs := ([] : List Bool)) (inner := []) (ok := fun _ => True) (okp := fun _ => True) ?hr ?hp (fun _ hk => hk) trivial (Below.refl _ _) (Nat.le_refl _) (by simp) ?_; (case hd => rfl); (case hg => rfl); (case hr => first | (go_simp; done) | (go_simp; rfl)); (case hp => exact (Reps.none _ _)); intro v381 w222 ho223 hb hg_ hnew_; clear hg_ hnew_; (first | rw [← Ny380.out] at ho223 | (simp only [Int.reduceToNat] at ho223; rw [← Ny380.out] at ho223)); have n0_ := Am10 (Kd.Q_below (by (with_reducible repeat (first | apply Qa10 | apply Qn10 | apply Qd10)); exact HO_3.out) hb); have n1_ := Am10 (Kd.R_elder' (by (with_reducible repeat (first | apply Ra10 | apply Rn10 | apply Rd10)); exact HO_4.out) (Kd.R_base ho223) hb); have n2_ := Am10 (Kd.R_below (by (with_reducible repeat (first | apply Ra10 | apply Rn10 | apply Rd10)); exact HO_13.out) hb); have n3_ := Am10 (Kd.R_lower (Kd.R_new' ho223 (Kd.R_lt (by (with_reducible repeat (first | apply Ra10 | apply Rn10 | apply Rd10)); exact HO_4.out))) (below_size (by repeat (first | (with_reducible first | exact HB.out | apply Ba10 | apply Bn10 | apply Bd10) | exact HB.out)))); have n4_ := Am10 (below_step (by repeat (first | (with_reducible first | exact HB.out | apply Ba10 | apply Bn10 | apply Bd10) | exact HB.out)) hb); clear HO_3; clear HO_4; clear HO_13; clear HB; have HO_3 := n0_; have HO_4 := n1_; have HO_13 := n2_; have HO382 := n3_; have HB := n4_; clear n0_ n1_ n2_ n3_ n4_; clear hb ho223; obtain ⟨Ao225, co225, eo225⟩ := Kd.R_slice HO_4.out; subst eo225) | ((with_reducible refine gate_builtin (b := .append) (xs := #[.tmp 119, .tmp 120]) rfl ?_); at_builtin; refine Kd.R_append_rows Kd.bool (w0 := w) w.heap.size rfl (.tmp 119) (.tmp 120) 40 4 (.bool false) 1 rfl Try.underlying40 info4 rfl (by decide) (by omega) v381 y380 x4_3 _ _ _ (fun k_ => some k_ ≠ (.slice Ao225 x4_3.length co225 : Value).ownBlock) (fun _ => False) rfl rfl ?aO ?aR (fun _ _ h => h) (fun _ h => h.elim) ?aF ?aB ?aS ?aL ?_; (case aR => repeat (first | exact (Rr10 HO_4.out).2.2 | (with_reducible refine Ca10 ?_ _) | (with_reducible refine Cn10 ?_ _) | (with_reducible refine Cd10 ?_))); (case aB => exact (by repeat (first | (with_reducible first | exact HB.out | apply Ba10 | apply Bn10 | apply Bd10) | exact HB.out))); (case aF => exact (fun k_ hk => Kd.fresh' (Kd.R_lt (by (with_reducible repeat (first | apply Ra10 | apply Rn10 | apply Rd10)); exact HO_4.out)) k_ hk)); (case aO => exact (by (with_reducible repeat (first | apply Ra10 | apply Rn10 | apply Rd10)); exact Kd.R_mono HO382.out (fun _ hk => hk.2))); (case aS => exact (below_size (by repeat (first | (with_reducible first | exact HB.out | apply Ba10 | apply Bn10 | apply Bd10) | exact HB.out)))); (case aL => have := LMc195.out; omega); intro v384 w224 ho hb hg hat; rw [← Ny383.out] at ho; have n0_ := Am10 (Kd.Q_over' (by (with_reducible repeat (first | apply Qa10 | apply Qn10 | apply Qd10)); exact HO_3.out) (Kd.R_typed (by (with_reducible repeat (first | apply Ra10 | apply Rn10 | apply Rd10)); exact HO382.out)) (by decide) hg); have n1_ := Am10 (Kd.R_after (ok := (fun _ => True)) (by (with_reducible repeat (first | apply Ra10 | apply Rn10 | apply Rd10)); exact HO_4.out) hg hat); have n2_ := Am10 (Kd.R_over' (by (with_reducible repeat (first | apply Ra10 | apply Rn10 | apply Rd10)); exact HO_13.out) (Kd.R_typed (by (with_reducible repeat (first | apply Ra10 | apply Rn10 | apply Rd10)); exact HO382.out)) (by decide) hg); have n3_ := Am10 (hb); have n4_ := Am10 (ho); clear HO_3; clear HO_4; clear HO_13; clear HB; clear HO382; have HO_3 := n0_; have HO_4 := n1_; have HO_13 := n2_; have HB := n3_; have HO385 := n4_; clear n0_ n1_ n2_ n3_ n4_; clear ho hb hg hat; obtain ⟨Ao226, co226, eo226⟩ := Kd.R_slice HO385.out; subst eo226; have p386 : 0 ≤ (x14_3 : Int) := of_decide_eq_true (by first | (with_reducible assumption) | assumption); have q386 : x14_3 < (y383.length : Int) := of_decide_eq_true (by first | (with_reducible assumption) | assumption); obtain ⟨ad386, e386, hx386_0⟩ := Kd.at_bool (Rr10 HO385.out).2.2 x14_3 p386 q386; cases e386; replace p386 := eq_true p386; replace q386 := eq_true q386; have p198 : 0 ≤ (x14_3 : Int) := of_decide_eq_true (by first | (with_reducible assumption) | assumption); have q198 : (x14_3 : Int) < ((y383.length : Int) : Int) := of_decide_eq_true (by first | (with_reducible assumption) | assumption); obtain ⟨go198, co198, eo198, gb198, gl198, cl198, HG198⟩ := Kd.R_form HO385.out (by omega); (first | cases eo198 | (injection eo198 with ea_ en_ ec_; (first | subst ea_ | (injection ea_ with ea_; subst ea_)); subst ec_; clear en_)); have GB198 := Am10 gb198; have GG198 := Am10 HG198; clear gb198 gl198 HG198; (first | simp only [add_plain] at hx386_0 | skip); obtain ⟨hx198_0, hf198_0⟩ := Kd.R_celln false HO385.out (x14_3 : Int) p198 q198; replace p198 := eq_true p198; replace q198 := eq_true q198; obtain ⟨hy227_, hz227_⟩ := Kd.R_celln false HO385.out (x14_3 : Int) (of_decide_eq_true (by first | (with_reducible assumption) | assumption)) (of_decide_eq_true (by first | (with_reducible assumption) | assumption)); have HP227 := Kd.R_putg HO385.out (x14_3 : Int) (!(rdOf false y383 x14_3))) | ((with_reducible refine gate_store (t := 4) (p := 129) rfl ?_); refine store_event (t := 4) (p := 129) (v := ?vo_w228) (w1 := (w224.setCell ⟨go198, (x14_3 : Int).toNat, none⟩ (.bool (!(rdOf false y383 x14_3))))) ?hg ?ho ?hn ?hr ?_; (case ho => rfl); (case hg => rfl); (case hn => rfl); (case hr => first | (go_simp; done) | (go_simp; rfl)); intro w228 hw; have hg : w224.grownBy w228 (some go198) := (by rw [hw]; exact HP227.2); have hp_ : Kd.R Kd.bool 4 w228 w.heap.size (fun k_ => some k_ ≠ (.slice Ao225 x4_3.length co225 : Value).ownBlock) (.slice (some ⟨go198, 0, none⟩) y383.length co226) y387 := (by rw [hw, Ny387.out]; exact HP227.1); clear HP227; have n0_ := Am10 (Kd.Q_over' (v := (.slice (some ⟨go198, 0, none⟩) y383.length co226)) (by (with_reducible repeat (first | apply Qa10 | apply Qn10 | apply Qd10)); exact HO_3.out) (Kd.R_typed HO385.out) (by decide) hg); have n1_ := Am10 (Kd.R_after (v := (.slice (some ⟨go198, 0, none⟩) y383.length co226)) (v1 := (.slice (some ⟨go198, 0, none⟩) y383.length co226)) (ok := (fun _ => True)) (by (with_reducible repeat (first | apply Ra10 | apply Rn10 | apply Rd10)); exact HO_4.out) hg (.inl rfl)); have n2_ := Am10 (Kd.R_over' (v := (.slice (some ⟨go198, 0, none⟩) y383.length co226)) (by (with_reducible repeat (first | apply Ra10 | apply Rn10 | apply Rd10)); exact HO_13.out) (Kd.R_typed HO385.out) (by decide) hg); have n3_ := Am10 (hp_); have n4_ := Am10 ((by rw [hw]; exact below_set (HB.out) GB198.out : Below w.heap.size w w228)); clear HO_3; clear HO_4; clear HO_13; clear HO385; clear HB; have HO_3 := n0_; have HO_4 := n1_; have HO_13 := n2_; have HO385 := n3_; have HB := n4_; clear n0_ n1_ n2_ n3_ n4_; clear hg hw hp_; obtain ⟨Ao229, co229, eo229⟩ := Kd.R_slice HO_13.out; subst eo229) | ((with_reducible refine gate_callee (f := 45) rfl ?_); refine goesL_ (some 132) rfl rfl Try.func45 (by kernel_rfl) rfl #[.slice Ao229 t375.length co229, .int .i64 x14_3] rfl (by (try simp only [List.map_toArray, List.map_cons, List.map_nil]); first | done | rfl | (simp only [List.length_drop, List.length_take]; rfl)) ?_; (with_reducible refine (laws_contains.calls kj187 _ _ t375 x14_3 false _ ?side1 ?side2 A199.out).mono ?_); (case side1 => repeat (first | exact (Rr10 HO_13.out).2.2 | (with_reducible refine Ca10 ?_ _) | (with_reducible refine Cn10 ?_ _) | (with_reducible refine Cd10 ?_))); (case side2 => exact (Rr10 HO_13.out).2.1); rintro e w' ⟨rfl, ⟨nd, rfl⟩⟩; refine ⟨_, rfl, ?_⟩) | (go_at_call 40; refine calls_of_args (args' := #[.slice Ao15 t345.length co15, .slice (some ⟨go198, 0, none⟩) y387.length co226]) (by first | (rw [show y387.length = y383.length from (Rr10 HO385.out).1.symm] <;> rfl) | rfl) ?_; (with_reducible refine (impl_Value.calls kj187 _ _ t345 _ _ y387 t389 _ ?side1 ?side2 ?side3 ?side4 A209.out).mono ?_); (case side1 => repeat (first | exact (Qr10 HO_3.out).2.2 | (with_reducible refine Ca10 ?_ _) | (with_reducible refine Cn10 ?_ _) | (with_reducible refine Cd10 ?_))); (case side2 => exact (Qr10 HO_3.out).2.1); (case side3 => repeat (first | exact (Rr10 HO385.out).2.2 | (with_reducible refine Ca10 ?_ _) | (with_reducible refine Cn10 ?_ _) | (with_reducible refine Cd10 ?_))); (case side4 => rw [show y387.length = y383.length from (Rr10 HO385.out).1.symm]; exact (Rr10 HO385.out).2.1); rintro e w230 ⟨rfl, hb⟩; have n0_ := Am10 (Kd.Q_below (by (with_reducible repeat (first | apply Qa10 | apply Qn10 | apply Qd10)); exact HO_3.out) hb); have n1_ := Am10 (Kd.R_below (by (with_reducible repeat (first | apply Ra10 | apply Rn10 | apply Rd10)); exact HO_4.out) hb); have n2_ := Am10 (Kd.R_below (by (with_reducible repeat (first | apply Ra10 | apply Rn10 | apply Rd10)); exact HO_13.out) hb); have n4_ := Am10 (below_step (by repeat (first | (with_reducible first | exact HB.out | apply Ba10 | apply Bn10 | apply Bd10) | exact HB.out)) hb); (try clear HO385); clear HO_3; clear HO_4; clear HO_13; clear HB; have HO_3 := n0_; have HO_4 := n1_; have HO_13 := n2_; have HB := n4_; clear n0_ n1_ n2_ n4_; (try clear hb); (try clear hb2); (try clear hk); (try clear hi)) | (go_at_call 40; (with_reducible refine (impl_Value.calls kj187 _ _ t345 _ _ x4_3 t390 _ ?side1 ?side2 ?side3 ?side4 A210.out).mono ?_); (case side1 => repeat (first | exact (Qr10 HO_3.out).2.2 | (with_reducible refine Ca10 ?_ _) | (with_reducible refine Cn10 ?_ _) | (with_reducible refine Cd10 ?_))); (case side2 => exact (Qr10 HO_3.out).2.1); (case side3 => repeat (first | exact (Rr10 HO_4.out).2.2 | (with_reducible refine Ca10 ?_ _) | (with_reducible refine Cn10 ?_ _) | (with_reducible refine Cd10 ?_))); (case side4 => exact (Rr10 HO_4.out).2.1); rintro e w231 ⟨rfl, hb⟩; have n0_ := Am10 (Kd.Q_below (by (with_reducible repeat (first | apply Qa10 | apply Qn10 | apply Qd10)); exact HO_3.out) hb); have n1_ := Am10 (Kd.R_below (by (with_reducible repeat (first | apply Ra10 | apply Rn10 | apply Rd10)); exact HO_4.out) hb); have n2_ := Am10 (Kd.R_below (by (with_reducible repeat (first | apply Ra10 | apply Rn10 | apply Rd10)); exact HO_13.out) hb); have n4_ := Am10 (below_step (by repeat (first | (with_reducible first | exact HB.out | apply Ba10 | apply Bn10 | apply Bd10) | exact HB.out)) hb); (try clear HO385); clear HO_3; clear HO_4; clear HO_13; clear HB; have HO_3 := n0_; have HO_4 := n1_; have HO_13 := n2_; have HB := n4_; clear n0_ n1_ n2_ n4_; (try clear hb); (try clear hb2); (try clear hk); (try clear hi)))
                  go_roundg kj187
                  case measure => have := HJ12.out; have := HJ41.out; have := HK3.out; have := HJ187.out; omega
                  case rel => exact ⟨(x4_3), (wrap64 (x14_3 + 1)), (by first | rfl | (simp; done) | (simp [*]; done)), H', ⟨by have := HJ12.out; have := HJ41.out; have := HK3.out; have := HJ187.out; omega⟩, ⟨by (with_reducible repeat (first | apply Qa10 | apply Qn10 | apply Qd10)); exact HO_3.out⟩, ⟨by (with_reducible repeat (first | apply Ra10 | apply Rn10 | apply Rd10)); exact Kd.R_mono HO_4.out (fun _ hk => trivial)⟩, ⟨by (with_reducible repeat (first | apply Ra10 | apply Rn10 | apply Rd10)); exact HO_13.out⟩, ⟨by repeat (first | (with_reducible first | exact HB.out | apply Ba10 | apply Bn10 | apply Bd10) | exact HB.out)⟩⟩
               ·rw [if_neg c197] at H
                exact absurd H (by simp)
              ·rw [if_neg c196] at H
               exact absurd H (by simp)
             ·rw [if_neg c195] at H
              exact absurd H (by simp)
            ·replace c194 := Bool.eq_false_iff.mpr c194
             subst c194
             have H1 : ((laws_ascends.f kj187 t375).bind fun t379 => (some t379)) = some r := by rw [if_neg (show ¬ (false = true) by decide)] at H; exact H
             clear H
             have H := H1
             clear H1
             replace H := Option.bind_eq_some_iff.mp H
             obtain ⟨t379, A2320, H⟩ := H
             replace H : (some t379) = some r := H
             have A232 := Am10 A2320
             clear A2320
             obtain rfl := Option.some.inj H
             obtain ⟨Ao233, co233, eo233⟩ := Kd.R_slice HO_13.out
             subst eo233
             go_wp2_with (first | ((with_reducible refine gate_callee (f := 46) rfl ?_); refine goesL_ (some 144) rfl rfl Try.func46 (by kernel_rfl) rfl #[.slice Ao233 t375.length co233] rfl (by (try simp only [List.map_toArray, List.map_cons, List.map_nil]); first | done | rfl | (simp only [List.length_drop, List.length_take]; rfl)) ?_; (with_reducible refine (laws_ascends.calls kj187 _ _ t375 t379 _ ?side1 ?side2 A232.out).mono ?_); (case side1 => repeat (first | exact (Rr10 HO_13.out).2.2 | (with_reducible refine Ca10 ?_ _) | (with_reducible refine Cn10 ?_ _) | (with_reducible refine Cd10 ?_))); (case side2 => exact (Rr10 HO_13.out).2.1); rintro e w' ⟨rfl, ⟨nd, rfl⟩⟩; refine ⟨_, rfl, ?_⟩))
             all_goals go_ret
             all_goals exact ⟨by first | rfl | (simp [errW_none, errW_some] <;> rfl) | (simp [*, errW_none, errW_some] <;> rfl), by repeat (first | (with_reducible first | exact HB.out | apply Ba10 | apply Bn10 | apply Bd10) | exact HB.out)⟩

/-- THE ONE PURE STATEMENT of laws_FnFormulas: yours. -/
def laws_FnFormulas.Pure : Prop := ∀ (l0 : List Int), l0.length ≤ maxLen → l0.length * 1 ≤ 140737488351232 → (∀ x ∈ l0, (Lit.int .u8 x).wf = true) → ∃ k, laws_FnFormulas.f k l0 = some true
theorem laws_FnFormulas.walk (P : laws_FnFormulas.Pure) (a0 : Option Addr) (len0 cap0 : Nat) (z0 : List Int) (w : World) (w0 : (a0 = none ∧ len0 = 0 ∧ cap0 = 0 ∧ z0 = []) ∨ ∃ x, a0 = some x ∧ len0 ≤ cap0 ∧ cap0 ≤ maxLen ∧ z0.length = cap0 ∧ (∀ i, i < z0.length → w.cell? (x.add i) = some (.int .u8 (z0.getD i 0))) ∧ ∀ n ∈ z0, (Lit.int .u8 n).wf = true) (y0 : len0 * 1 ≤ 140737488351232) :
  Calls Try.prog 10 #[.slice a0 len0 cap0] w fun e w' => e = .returned (.bool true) ∧ Below w.heap.size w w' := by
 obtain ⟨l0, rfl, hr0, hm0, hw0, hc0⟩ := ReadsInt.ofRowC w0
 obtain ⟨k, h⟩ := P l0 hm0 y0 hw0
 refine (laws_FnFormulas.calls k _ _ l0 true w (Kd.C_of_reads (d := (0 : Int)) (h1 := fun _ => rfl) hr0) hc0 h).mono ?_
 rintro e w' ⟨rfl, hd⟩
 exact ⟨rfl, hd⟩

end Go.Proofs.Ytlbecibchkamjaa.PFnFormulas
