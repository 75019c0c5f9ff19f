-- Written by a program of this session (hooks of mine on the print): Lean checks it.
import Derived.Test.YtjidlgimnigllaaPFnBurdensx0
import Derived.Test.YtjidlgimnigllaaPFnBurdensx2
import Derived.Test.YtjidlgimnigllaaPFnBurdensx3
import Derived.Test.YtjidlgimnigllaaPFnBurdensx4
import Derived.Test.YtjidlgimnigllaaPFnBurdensx5
import Derived.Test.YtjidlgimnigllaaPFnBurdensx10
import Derived.Test.YtjidlgimnigllaaPFnBurdensx11
namespace Go.Proofs.Ytjidlgimnigllaa.PFnBurdens
open Go.RowKit Go.Proofs.YtjidlgimnigllaaW.PrintWords Go.Proofs.YtjidlgimnigllaaW.PrintLast Go.Proofs.YtjidlgimnigllaaW.PrintMore
attribute [local go_sem] max2_int min2_int max_two min_two max_three min_three max_four min_four   -- for this text's walks alone
set_option linter.unusedVariables false
set_option linter.unusedSimpArgs false

/-! ### laws_FnBurdens: function 6 -/
mutual
def laws_FnBurdens.j0 : Nat → List Int → Bool → Option (Bool)
 | 0, _, _ => none
 | k + 1, x0, x56 => if x56 = true then (some false) else ((spec_DrawRaise.f k x0).bind fun bt407 => ((impl_Raise.f k bt407.1 bt407.2.1 bt407.2.2).bind fun bt412 => (if bt412.2 = true then ((impl_ArePoints.f k bt412.1).bind fun t416 => (if t416 = true then (if (bt412.1.length : Int) = (wrap64 ((bt407.1.length : Int) + 1)) then ((impl_MustSpeak.f k bt412.1 (wrap64 (3 - bt407.2.2))).bind fun t417 => ((laws_contains.f k t417 bt407.2.1).bind fun t420 => (if t420 = true then (laws_FnBurdens.j1 k x0 false) else (laws_FnBurdens.j1 k x0 true)))) else (laws_FnBurdens.j1 k x0 true)) else (laws_FnBurdens.j1 k x0 true))) else (laws_FnBurdens.j1 k x0 ((bt412.1.length : Int) != (bt407.1.length : Int))))))
def laws_FnBurdens.j1 : Nat → List Int → Bool → Option (Bool)
 | 0, _, _ => none
 | k + 1, x0, x103 => if x103 = true then (some false) else ((spec_DrawIsSettled.f k x0).bind fun t421 => ((impl_IsSettled.f k t421).bind fun t424 => (if t424 = true then (laws_FnBurdens.l0 k x0 t421 0) else ((spec_DrawWon.f k x0).bind fun bt432 => ((impl_Won.f k bt432.1 bt432.2).bind fun t436 => (if t436 ≤ (bt432.1.length : Int) then (some (decide (t436 ≥ (wrap64 (-(bt432.1.length : Int)))))) else (some false)))))))
def laws_FnBurdens.l0 : Nat → List Int → List (S48) → Int → Option (Bool)
 | 0, _, _, _ => none
 | k + 1, x0, x14, x15 => if x15 < (x14.length : Int) then (if 0 ≤ x15 then (if ((rd_T48 x14 x15).f2) = 0 then (some false) else (if ((rd_T48 x14 x15).f2) = 2 then (some false) else (laws_FnBurdens.l0 k x0 x14 (wrap64 (x15 + 1))))) else (none)) else ((spec_DrawWon.f k x0).bind fun bt427 => ((impl_Won.f k bt427.1 bt427.2).bind fun t431 => (if t431 ≤ (bt427.1.length : Int) then (some (decide (t431 ≥ (wrap64 (-(bt427.1.length : Int)))))) else (some false))))
end
def laws_FnBurdens.f (k : Nat) (l0 : List Int) : Option (Bool) := (laws_big.f l0).bind fun t391 => (if t391 = true then (some true) else ((spec_DrawReply.f k l0).bind fun bt392 => ((impl_Reply.f k bt392.1 bt392.2.1 bt392.2.2.1 bt392.2.2.2).bind fun bt398 => (if bt398.2 = true then ((impl_ArePoints.f k bt398.1).bind fun t402 => (if t402 = true then ((impl_MustSpeak.f k bt392.1 bt392.2.2.1).bind fun t403 => ((laws_contains.f k t403 bt392.2.1).bind fun t406 => (if t406 = true then (laws_FnBurdens.j0 k l0 ((bt398.1.length : Int) != (bt392.1.length : Int))) else (laws_FnBurdens.j0 k l0 true)))) else (laws_FnBurdens.j0 k l0 true))) else (laws_FnBurdens.j0 k l0 ((bt398.1.length : Int) != (bt392.1.length : Int)))))))
theorem laws_FnBurdens.mono_l : ∀ k, (∀ y0 y1, LeO (laws_FnBurdens.j0 k y0 y1) (laws_FnBurdens.j0 (k + 1) y0 y1)) ∧ (∀ y0 y1, LeO (laws_FnBurdens.j1 k y0 y1) (laws_FnBurdens.j1 (k + 1) y0 y1)) ∧ (∀ y0 y1 y2, LeO (laws_FnBurdens.l0 k y0 y1 y2) (laws_FnBurdens.l0 (k + 1) y0 y1 y2))
 | 0 => ⟨fun _ _ r h => by simp [laws_FnBurdens.j0] at h, fun _ _ r h => by simp [laws_FnBurdens.j1] at h, fun _ _ _ r h => by simp [laws_FnBurdens.l0] at h⟩
 | k + 1 => by
  obtain ⟨ih0, ih1, ih2⟩ := laws_FnBurdens.mono_l k
  refine ⟨?_, ?_, ?_⟩
  ·intro y0 y1
   unfold laws_FnBurdens.j0
   repeat' first
   | (with_reducible exact ih0 _ _)
   | (with_reducible exact ih1 _ _)
   | (with_reducible exact ih2 _ _ _)
   | (with_reducible exact impl_ArePoints.mono _ _)
   | (with_reducible exact impl_IsSettled.mono _ _)
   | (with_reducible exact impl_MustSpeak.mono _ _ _)
   | (with_reducible exact impl_Raise.mono _ _ _ _)
   | (with_reducible exact impl_Reply.mono _ _ _ _ _)
   | (with_reducible exact impl_Won.mono _ _ _)
   | (with_reducible exact laws_contains.mono _ _ _)
   | (with_reducible exact spec_DrawIsSettled.mono _ _)
   | (with_reducible exact spec_DrawRaise.mono _ _)
   | (with_reducible exact spec_DrawReply.mono _ _)
   | (with_reducible exact spec_DrawWon.mono _ _)
   | (with_reducible exact LeO.refl _)
   | (with_reducible exact LeO.none _)
   | (with_reducible refine LeO.ite ?_ ?_)
   | (with_reducible refine LeO.bind ?_ (fun _ => ?_))
   | exact ih0 _ _
   | exact ih1 _ _
   | exact ih2 _ _ _
   | exact impl_ArePoints.mono _ _
   | exact impl_IsSettled.mono _ _
   | exact impl_MustSpeak.mono _ _ _
   | exact impl_Raise.mono _ _ _ _
   | exact impl_Reply.mono _ _ _ _ _
   | exact impl_Won.mono _ _ _
   | exact laws_contains.mono _ _ _
   | exact spec_DrawIsSettled.mono _ _
   | exact spec_DrawRaise.mono _ _
   | exact spec_DrawReply.mono _ _
   | exact spec_DrawWon.mono _ _
   | exact LeO.none _
   | refine LeO.ite ?_ ?_
   | refine LeO.bind ?_ (fun _ => ?_)
  ·intro y0 y1
   unfold laws_FnBurdens.j1
   repeat' first
   | (with_reducible exact ih0 _ _)
   | (with_reducible exact ih1 _ _)
   | (with_reducible exact ih2 _ _ _)
   | (with_reducible exact impl_ArePoints.mono _ _)
   | (with_reducible exact impl_IsSettled.mono _ _)
   | (with_reducible exact impl_MustSpeak.mono _ _ _)
   | (with_reducible exact impl_Raise.mono _ _ _ _)
   | (with_reducible exact impl_Reply.mono _ _ _ _ _)
   | (with_reducible exact impl_Won.mono _ _ _)
   | (with_reducible exact laws_contains.mono _ _ _)
   | (with_reducible exact spec_DrawIsSettled.mono _ _)
   | (with_reducible exact spec_DrawRaise.mono _ _)
   | (with_reducible exact spec_DrawReply.mono _ _)
   | (with_reducible exact spec_DrawWon.mono _ _)
   | (with_reducible exact LeO.refl _)
   | (with_reducible exact LeO.none _)
   | (with_reducible refine LeO.ite ?_ ?_)
   | (with_reducible refine LeO.bind ?_ (fun _ => ?_))
   | exact ih0 _ _
   | exact ih1 _ _
   | exact ih2 _ _ _
   | exact impl_ArePoints.mono _ _
   | exact impl_IsSettled.mono _ _
   | exact impl_MustSpeak.mono _ _ _
   | exact impl_Raise.mono _ _ _ _
   | exact impl_Reply.mono _ _ _ _ _
   | exact impl_Won.mono _ _ _
   | exact laws_contains.mono _ _ _
   | exact spec_DrawIsSettled.mono _ _
   | exact spec_DrawRaise.mono _ _
   | exact spec_DrawReply.mono _ _
   | exact spec_DrawWon.mono _ _
   | exact LeO.none _
   | refine LeO.ite ?_ ?_
   | refine LeO.bind ?_ (fun _ => ?_)
  ·intro y0 y1 y2
   unfold laws_FnBurdens.l0
   repeat' first
   | (with_reducible exact ih0 _ _)
   | (with_reducible exact ih1 _ _)
   | (with_reducible exact ih2 _ _ _)
   | (with_reducible exact impl_ArePoints.mono _ _)
   | (with_reducible exact impl_IsSettled.mono _ _)
   | (with_reducible exact impl_MustSpeak.mono _ _ _)
   | (with_reducible exact impl_Raise.mono _ _ _ _)
   | (with_reducible exact impl_Reply.mono _ _ _ _ _)
   | (with_reducible exact impl_Won.mono _ _ _)
   | (with_reducible exact laws_contains.mono _ _ _)
   | (with_reducible exact spec_DrawIsSettled.mono _ _)
   | (with_reducible exact spec_DrawRaise.mono _ _)
   | (with_reducible exact spec_DrawReply.mono _ _)
   | (with_reducible exact spec_DrawWon.mono _ _)
   | (with_reducible exact LeO.refl _)
   | (with_reducible exact LeO.none _)
   | (with_reducible refine LeO.ite ?_ ?_)
   | (with_reducible refine LeO.bind ?_ (fun _ => ?_))
   | exact ih0 _ _
   | exact ih1 _ _
   | exact ih2 _ _ _
   | exact impl_ArePoints.mono _ _
   | exact impl_IsSettled.mono _ _
   | exact impl_MustSpeak.mono _ _ _
   | exact impl_Raise.mono _ _ _ _
   | exact impl_Reply.mono _ _ _ _ _
   | exact impl_Won.mono _ _ _
   | exact laws_contains.mono _ _ _
   | exact spec_DrawIsSettled.mono _ _
   | exact spec_DrawRaise.mono _ _
   | exact spec_DrawReply.mono _ _
   | exact spec_DrawWon.mono _ _
   | exact LeO.none _
   | refine LeO.ite ?_ ?_
   | refine LeO.bind ?_ (fun _ => ?_)
theorem laws_FnBurdens.mono : ∀ a0 k, LeO (laws_FnBurdens.f k a0) (laws_FnBurdens.f (k + 1) a0) := by
 intro a0 k
 obtain ⟨ih0, ih1, ih2⟩ := laws_FnBurdens.mono_l k
 unfold laws_FnBurdens.f
 repeat' first
   | (with_reducible exact ih0 _ _)
   | (with_reducible exact ih1 _ _)
   | (with_reducible exact ih2 _ _ _)
   | (with_reducible exact impl_ArePoints.mono _ _)
   | (with_reducible exact impl_IsSettled.mono _ _)
   | (with_reducible exact impl_MustSpeak.mono _ _ _)
   | (with_reducible exact impl_Raise.mono _ _ _ _)
   | (with_reducible exact impl_Reply.mono _ _ _ _ _)
   | (with_reducible exact impl_Won.mono _ _ _)
   | (with_reducible exact laws_contains.mono _ _ _)
   | (with_reducible exact spec_DrawIsSettled.mono _ _)
   | (with_reducible exact spec_DrawRaise.mono _ _)
   | (with_reducible exact spec_DrawReply.mono _ _)
   | (with_reducible exact spec_DrawWon.mono _ _)
   | (with_reducible exact LeO.refl _)
   | (with_reducible exact LeO.none _)
   | (with_reducible refine LeO.ite ?_ ?_)
   | (with_reducible refine LeO.bind ?_ (fun _ => ?_))
   | exact ih0 _ _
   | exact ih1 _ _
   | exact ih2 _ _ _
   | exact impl_ArePoints.mono _ _
   | exact impl_IsSettled.mono _ _
   | exact impl_MustSpeak.mono _ _ _
   | exact impl_Raise.mono _ _ _ _
   | exact impl_Reply.mono _ _ _ _ _
   | exact impl_Won.mono _ _ _
   | exact laws_contains.mono _ _ _
   | exact spec_DrawIsSettled.mono _ _
   | exact spec_DrawRaise.mono _ _
   | exact spec_DrawReply.mono _ _
   | exact spec_DrawWon.mono _ _
   | exact LeO.none _
   | refine LeO.ite ?_ ?_
   | refine LeO.bind ?_ (fun _ => ?_)
set_option maxHeartbeats 8000000 in
set_option maxRecDepth 100000 in
theorem laws_FnBurdens.calls (k : Nat) (A0 : Option Addr) (c0 : Nat) (l0 : List Int) (r : Bool) (w : World) (hr0 : Kd.C (Kd.int .u8) w A0 l0.length l0) (hc0 : l0.length ≤ c0) (h : laws_FnBurdens.f k l0 = some r) :
  Calls Try.prog 6 #[.slice A0 l0.length c0] w fun e w' => e = .returned (.bool r) ∧ Below w.heap.size w w' := by
 have HR0 := Aside0.mk hr0
 have HC0 := Aside0.mk hc0
 clear hr0 hc0
 have HB := Aside0.mk (Below.refl w.heap.size w)
 have H : ((laws_big.f l0).bind fun t391 => (if t391 = true then (some true) else ((spec_DrawReply.f k l0).bind fun bt392 => ((impl_Reply.f k bt392.1 bt392.2.1 bt392.2.2.1 bt392.2.2.2).bind fun bt398 => (if bt398.2 = true then ((impl_ArePoints.f k bt398.1).bind fun t402 => (if t402 = true then ((impl_MustSpeak.f k bt392.1 bt392.2.2.1).bind fun t403 => ((laws_contains.f k t403 bt392.2.1).bind fun t406 => (if t406 = true then (laws_FnBurdens.j0 k l0 ((bt398.1.length : Int) != (bt392.1.length : Int))) else (laws_FnBurdens.j0 k l0 true)))) else (laws_FnBurdens.j0 k l0 true))) else (laws_FnBurdens.j0 k l0 ((bt398.1.length : Int) != (bt392.1.length : Int)))))))) = some r := h
 clear h
 replace H := Option.bind_eq_some_iff.mp H
 obtain ⟨t391, A20, H⟩ := H
 replace H : (if t391 = true then (some true) else ((spec_DrawReply.f k l0).bind fun bt392 => ((impl_Reply.f k bt392.1 bt392.2.1 bt392.2.2.1 bt392.2.2.2).bind fun bt398 => (if bt398.2 = true then ((impl_ArePoints.f k bt398.1).bind fun t402 => (if t402 = true then ((impl_MustSpeak.f k bt392.1 bt392.2.2.1).bind fun t403 => ((laws_contains.f k t403 bt392.2.1).bind fun t406 => (if t406 = true then (laws_FnBurdens.j0 k l0 ((bt398.1.length : Int) != (bt392.1.length : Int))) else (laws_FnBurdens.j0 k l0 true)))) else (laws_FnBurdens.j0 k l0 true))) else (laws_FnBurdens.j0 k l0 ((bt398.1.length : Int) != (bt392.1.length : Int))))))) = some r := H
 have A2 := Aside0.mk A20
 clear A20
 by_cases c3 : t391 = true
 ·subst c3
  have H1 : (some true) = some r := by rw [if_pos rfl] at H; exact H
  clear H
  have H := H1
  clear H1
  obtain rfl := Option.some.inj H
  go_enter Try.func6, Try.ntmps6
  go_wp2_with (first | ((with_reducible refine gate_callee (f := 21) rfl ?_); refine goesL_ (some 20) rfl rfl Try.func21 (by kernel_rfl) rfl #[.slice A0 l0.length c0] rfl (by (try simp only [List.map_toArray, List.map_cons, List.map_nil]); first | done | rfl | (simp only [List.length_drop, List.length_take]; rfl)) ?_; (with_reducible refine (laws_big.calls _ _ l0 true _ ?side1 ?side2 A2.out).mono ?_); (case side1 => repeat (first | exact HR0.out | (with_reducible refine Kd.C_alloc ?_ _) | (with_reducible refine Kd.C_drewN ?_ _) | (with_reducible refine Kd.C_drew ?_))); (case side2 => exact HC0.out); rintro e w' ⟨rfl, ⟨nd, rfl⟩⟩; refine ⟨_, rfl, ?_⟩))
  all_goals go_ret
  all_goals exact ⟨by first | rfl | (simp [errW_none, errW_some] <;> rfl) | (simp [*, errW_none, errW_some] <;> rfl), by repeat (first | (with_reducible first | exact HB.out | apply below_alloc | apply pw_below_drewN | apply below_drew1) | exact HB.out)⟩
 ·replace c3 := Bool.eq_false_iff.mpr c3
  subst c3
  have H1 : ((spec_DrawReply.f k l0).bind fun bt392 => ((impl_Reply.f k bt392.1 bt392.2.1 bt392.2.2.1 bt392.2.2.2).bind fun bt398 => (if bt398.2 = true then ((impl_ArePoints.f k bt398.1).bind fun t402 => (if t402 = true then ((impl_MustSpeak.f k bt392.1 bt392.2.2.1).bind fun t403 => ((laws_contains.f k t403 bt392.2.1).bind fun t406 => (if t406 = true then (laws_FnBurdens.j0 k l0 ((bt398.1.length : Int) != (bt392.1.length : Int))) else (laws_FnBurdens.j0 k l0 true)))) else (laws_FnBurdens.j0 k l0 true))) else (laws_FnBurdens.j0 k l0 ((bt398.1.length : Int) != (bt392.1.length : Int)))))) = some r := by rw [if_neg (show ¬ (false = true) by decide)] at H; exact H
  clear H
  have H := H1
  clear H1
  replace H := Option.bind_eq_some_iff.mp H
  obtain ⟨⟨t392, t393, t394, t395⟩, A40, H⟩ := H
  replace H : ((impl_Reply.f k t392 t393 t394 t395).bind fun bt398 => (if bt398.2 = true then ((impl_ArePoints.f k bt398.1).bind fun t402 => (if t402 = true then ((impl_MustSpeak.f k t392 t394).bind fun t403 => ((laws_contains.f k t403 t393).bind fun t406 => (if t406 = true then (laws_FnBurdens.j0 k l0 ((bt398.1.length : Int) != (t392.length : Int))) else (laws_FnBurdens.j0 k l0 true)))) else (laws_FnBurdens.j0 k l0 true))) else (laws_FnBurdens.j0 k l0 ((bt398.1.length : Int) != (t392.length : Int))))) = some r := H
  have A4 := Aside0.mk A40
  clear A40
  replace H := Option.bind_eq_some_iff.mp H
  obtain ⟨⟨t398, t399⟩, A50, H⟩ := H
  replace H : (if t399 = true then ((impl_ArePoints.f k t398).bind fun t402 => (if t402 = true then ((impl_MustSpeak.f k t392 t394).bind fun t403 => ((laws_contains.f k t403 t393).bind fun t406 => (if t406 = true then (laws_FnBurdens.j0 k l0 ((t398.length : Int) != (t392.length : Int))) else (laws_FnBurdens.j0 k l0 true)))) else (laws_FnBurdens.j0 k l0 true))) else (laws_FnBurdens.j0 k l0 ((t398.length : Int) != (t392.length : Int)))) = some r := H
  have A5 := Aside0.mk A50
  clear A50
  have HC6 := Aside0.mk H
  clear H
  go_enter Try.func6, Try.ntmps6
  go_upto_region 5 with (first | ((with_reducible refine gate_callee (f := 21) rfl ?_); refine goesL_ (some 20) rfl rfl Try.func21 (by kernel_rfl) rfl #[.slice A0 l0.length c0] rfl (by (try simp only [List.map_toArray, List.map_cons, List.map_nil]); first | done | rfl | (simp only [List.length_drop, List.length_take]; rfl)) ?_; (with_reducible refine (laws_big.calls _ _ l0 false _ ?side1 ?side2 A2.out).mono ?_); (case side1 => repeat (first | exact HR0.out | (with_reducible refine Kd.C_alloc ?_ _) | (with_reducible refine Kd.C_drewN ?_ _) | (with_reducible refine Kd.C_drew ?_))); (case side2 => exact HC0.out); rintro e w' ⟨rfl, ⟨nd, rfl⟩⟩; refine ⟨_, rfl, ?_⟩) | ((with_reducible refine gate_callee (f := 22) rfl ?_); refine goesL_ (some 23) rfl rfl Try.func22 (by kernel_rfl) rfl #[.slice A0 l0.length c0] rfl (by (try simp only [List.map_toArray, List.map_cons, List.map_nil]); first | done | rfl | (simp only [List.length_drop, List.length_take]; rfl)) ?_; (with_reducible refine (spec_DrawReply.calls k _ _ l0 t392 t393 t394 t395 _ ?side1 ?side2 A4.out).mono ?_); (case side1 => repeat (first | exact HR0.out | (with_reducible refine Kd.C_alloc ?_ _) | (with_reducible refine Kd.C_drewN ?_ _) | (with_reducible refine Kd.C_drew ?_))); (case side2 => exact HC0.out); rintro e w7 ⟨v396, rfl, ho0, hb⟩; refine ⟨_, rfl, ?_⟩; have n0_ := Aside0.mk (Kd.R_lower ho0 (below_size (by repeat (first | (with_reducible first | exact HB.out | apply below_alloc | apply pw_below_drewN | apply below_drew1) | exact HB.out)))); have n1_ := Aside0.mk (below_step (by repeat (first | (with_reducible first | exact HB.out | apply below_alloc | apply pw_below_drewN | apply below_drew1) | exact HB.out)) hb); clear HB; have HO397 := n0_; have HB := n1_; clear n0_ n1_; (try clear hb); (try clear hb2); (try clear hk); (try clear hi); (try clear ho0); obtain ⟨Ao8, co8, eo8⟩ := Kd.R_slice HO397.out; subst eo8) | ((with_reducible refine gate_callee (f := 17) rfl ?_); refine goesL_ (some 33) rfl rfl Try.func17 (by kernel_rfl) rfl #[.slice Ao8 t392.length co8, .int .i64 t393, .int .i64 t394, .int .i64 t395] rfl (by (try simp only [List.map_toArray, List.map_cons, List.map_nil]); first | done | rfl | (simp only [List.length_drop, List.length_take]; rfl)) ?_; (with_reducible refine (impl_Reply.calls k _ _ t392 t393 t394 t395 t398 t399 _ ?side1 ?side2 A5.out).mono ?_); (case side1 => repeat (first | exact (Kd.R_reads' HO397.out).2.2 | (with_reducible refine Kd.C_alloc ?_ _) | (with_reducible refine Kd.C_drewN ?_ _) | (with_reducible refine Kd.C_drew ?_))); (case side2 => exact (Kd.R_reads' HO397.out).2.1); rintro e w9 ⟨v400, rfl, ho0, hb⟩; refine ⟨_, rfl, ?_⟩; have n0_ := Aside0.mk (Kd.R_elder' (by (with_reducible repeat (first | apply Kd.R_alloc | apply Kd.R_drewN | apply Kd.R_drew)); exact HO397.out) (Kd.R_base ho0) hb); have n1_ := Aside0.mk (Kd.R_lower (Kd.R_new' ho0 (Kd.R_lt (by (with_reducible repeat (first | apply Kd.R_alloc | apply Kd.R_drewN | apply Kd.R_drew)); exact HO397.out))) (below_size (by repeat (first | (with_reducible first | exact HB.out | apply below_alloc | apply pw_below_drewN | apply below_drew1) | exact HB.out)))); have n2_ := Aside0.mk (below_step (by repeat (first | (with_reducible first | exact HB.out | apply below_alloc | apply pw_below_drewN | apply below_drew1) | exact HB.out)) hb); clear HO397; clear HB; have HO397 := n0_; have HO401 := n1_; have HB := n2_; clear n0_ n1_ n2_; (try clear hb); (try clear hb2); (try clear hk); (try clear hi); (try clear ho0)))
  (try simp only [Act.put, List.setIfInBounds_toArray, List.set_cons_zero, List.set_cons_succ])
  go_cut [56] (fun v56 wc => ∃ (kq : Nat) (x56_5 : Bool), v56 = .bool x56_5 ∧ Aside0 (laws_FnBurdens.j0 kq l0 x56_5 = some r) ∧ Aside0 (kq ≤ k) ∧ Aside0 (Below w.heap.size w wc))
  case first =>
   have H := HC6.out
   clear HC6
   by_cases c10 : t399 = true
   ·subst c10
    have H1 : ((impl_ArePoints.f k t398).bind fun t402 => (if t402 = true then ((impl_MustSpeak.f k t392 t394).bind fun t403 => ((laws_contains.f k t403 t393).bind fun t406 => (if t406 = true then (laws_FnBurdens.j0 k l0 ((t398.length : Int) != (t392.length : Int))) else (laws_FnBurdens.j0 k l0 true)))) else (laws_FnBurdens.j0 k l0 true))) = some r := by rw [if_pos rfl] at H; exact H
    clear H
    have H := H1
    clear H1
    replace H := Option.bind_eq_some_iff.mp H
    obtain ⟨t402, A110, H⟩ := H
    replace H : (if t402 = true then ((impl_MustSpeak.f k t392 t394).bind fun t403 => ((laws_contains.f k t403 t393).bind fun t406 => (if t406 = true then (laws_FnBurdens.j0 k l0 ((t398.length : Int) != (t392.length : Int))) else (laws_FnBurdens.j0 k l0 true)))) else (laws_FnBurdens.j0 k l0 true)) = some r := H
    have A11 := Aside0.mk A110
    clear A110
    by_cases c12 : t402 = true
    ·subst c12
     have H1 : ((impl_MustSpeak.f k t392 t394).bind fun t403 => ((laws_contains.f k t403 t393).bind fun t406 => (if t406 = true then (laws_FnBurdens.j0 k l0 ((t398.length : Int) != (t392.length : Int))) else (laws_FnBurdens.j0 k l0 true)))) = some r := by rw [if_pos rfl] at H; exact H
     clear H
     have H := H1
     clear H1
     replace H := Option.bind_eq_some_iff.mp H
     obtain ⟨t403, A130, H⟩ := H
     replace H : ((laws_contains.f k t403 t393).bind fun t406 => (if t406 = true then (laws_FnBurdens.j0 k l0 ((t398.length : Int) != (t392.length : Int))) else (laws_FnBurdens.j0 k l0 true))) = some r := H
     have A13 := Aside0.mk A130
     clear A130
     replace H := Option.bind_eq_some_iff.mp H
     obtain ⟨t406, A140, H⟩ := H
     replace H : (if t406 = true then (laws_FnBurdens.j0 k l0 ((t398.length : Int) != (t392.length : Int))) else (laws_FnBurdens.j0 k l0 true)) = some r := H
     have A14 := Aside0.mk A140
     clear A140
     by_cases c15 : t406 = true
     ·subst c15
      have H1 : (laws_FnBurdens.j0 k l0 ((t398.length : Int) != (t392.length : Int))) = some r := by rw [if_pos rfl] at H; exact H
      clear H
      have H := H1
      clear H1
      have H' := Aside0.mk H
      clear H
      obtain ⟨Ao16, co16, eo16⟩ := Kd.R_slice HO401.out
      subst eo16
      go_wp2_with (first | (go_at_call 23; (with_reducible refine (impl_ArePoints.calls k _ _ t398 true _ ?side1 ?side2 A11.out).mono ?_); (case side1 => repeat (first | exact (Kd.R_reads' HO401.out).2.2 | (with_reducible refine Kd.C_alloc ?_ _) | (with_reducible refine Kd.C_drewN ?_ _) | (with_reducible refine Kd.C_drew ?_))); (case side2 => exact (Kd.R_reads' HO401.out).2.1); rintro e w17 ⟨rfl, hb⟩; have n0_ := Aside0.mk (Kd.R_below (by (with_reducible repeat (first | apply Kd.R_alloc | apply Kd.R_drewN | apply Kd.R_drew)); exact HO397.out) hb); have n1_ := Aside0.mk (Kd.R_below (by (with_reducible repeat (first | apply Kd.R_alloc | apply Kd.R_drewN | apply Kd.R_drew)); exact HO401.out) hb); have n2_ := Aside0.mk (below_step (by repeat (first | (with_reducible first | exact HB.out | apply below_alloc | apply pw_below_drewN | apply below_drew1) | exact HB.out)) hb); clear HO397; clear HO401; clear HB; have HO397 := n0_; have HO401 := n1_; have HB := n2_; clear n0_ n1_ n2_; (try clear hb); (try clear hb2); (try clear hk); (try clear hi)) | (go_at_call 10; (with_reducible refine (impl_MustSpeak.calls k _ _ t392 t394 t403 _ ?side1 ?side2 A13.out).mono ?_); (case side1 => repeat (first | exact (Kd.R_reads' HO397.out).2.2 | (with_reducible refine Kd.C_alloc ?_ _) | (with_reducible refine Kd.C_drewN ?_ _) | (with_reducible refine Kd.C_drew ?_))); (case side2 => exact (Kd.R_reads' HO397.out).2.1); rintro e w18 ⟨v404, rfl, ho0, hb⟩; have n0_ := Aside0.mk (Kd.R_below (by (with_reducible repeat (first | apply Kd.R_alloc | apply Kd.R_drewN | apply Kd.R_drew)); exact HO397.out) hb); have n1_ := Aside0.mk (Kd.R_below (by (with_reducible repeat (first | apply Kd.R_alloc | apply Kd.R_drewN | apply Kd.R_drew)); exact HO401.out) hb); have n2_ := Aside0.mk (Kd.R_lower ho0 (below_size (by repeat (first | (with_reducible first | exact HB.out | apply below_alloc | apply pw_below_drewN | apply below_drew1) | exact HB.out)))); have n3_ := Aside0.mk (below_step (by repeat (first | (with_reducible first | exact HB.out | apply below_alloc | apply pw_below_drewN | apply below_drew1) | exact HB.out)) hb); clear HO397; clear HO401; clear HB; have HO397 := n0_; have HO401 := n1_; have HO405 := n2_; have HB := n3_; clear n0_ n1_ n2_ n3_; (try clear hb); (try clear hb2); (try clear hk); (try clear hi); (try clear ho0); obtain ⟨Ao19, co19, eo19⟩ := Kd.R_slice HO405.out; subst eo19) | (go_at_call 24; (with_reducible refine (laws_contains.calls k _ _ t403 t393 true _ ?side1 ?side2 A14.out).mono ?_); (case side1 => repeat (first | exact (Kd.R_reads' HO405.out).2.2 | (with_reducible refine Kd.C_alloc ?_ _) | (with_reducible refine Kd.C_drewN ?_ _) | (with_reducible refine Kd.C_drew ?_))); (case side2 => exact (Kd.R_reads' HO405.out).2.1); rintro e w' ⟨rfl, ⟨nd, rfl⟩⟩))
      go_meet
      case rel => exact ⟨_, (((t398.length : Int) != (t392.length : Int))), (by first | rfl | (simp; done) | (simp [*]; done)), H', ⟨by first | omega | exact Nat.le_refl _⟩, ⟨by repeat (first | (with_reducible first | exact HB.out | apply below_alloc | apply pw_below_drewN | apply below_drew1) | exact HB.out)⟩⟩
     ·replace c15 := Bool.eq_false_iff.mpr c15
      subst c15
      have H1 : (laws_FnBurdens.j0 k l0 true) = some r := by rw [if_neg (show ¬ (false = true) by decide)] at H; exact H
      clear H
      have H := H1
      clear H1
      have H' := Aside0.mk H
      clear H
      obtain ⟨Ao20, co20, eo20⟩ := Kd.R_slice HO401.out
      subst eo20
      go_wp2_with (first | (go_at_call 23; (with_reducible refine (impl_ArePoints.calls k _ _ t398 true _ ?side1 ?side2 A11.out).mono ?_); (case side1 => repeat (first | exact (Kd.R_reads' HO401.out).2.2 | (with_reducible refine Kd.C_alloc ?_ _) | (with_reducible refine Kd.C_drewN ?_ _) | (with_reducible refine Kd.C_drew ?_))); (case side2 => exact (Kd.R_reads' HO401.out).2.1); rintro e w21 ⟨rfl, hb⟩; have n0_ := Aside0.mk (Kd.R_below (by (with_reducible repeat (first | apply Kd.R_alloc | apply Kd.R_drewN | apply Kd.R_drew)); exact HO397.out) hb); have n1_ := Aside0.mk (Kd.R_below (by (with_reducible repeat (first | apply Kd.R_alloc | apply Kd.R_drewN | apply Kd.R_drew)); exact HO401.out) hb); have n2_ := Aside0.mk (below_step (by repeat (first | (with_reducible first | exact HB.out | apply below_alloc | apply pw_below_drewN | apply below_drew1) | exact HB.out)) hb); clear HO397; clear HO401; clear HB; have HO397 := n0_; have HO401 := n1_; have HB := n2_; clear n0_ n1_ n2_; (try clear hb); (try clear hb2); (try clear hk); (try clear hi)) | (go_at_call 10; (with_reducible refine (impl_MustSpeak.calls k _ _ t392 t394 t403 _ ?side1 ?side2 A13.out).mono ?_); (case side1 => repeat (first | exact (Kd.R_reads' HO397.out).2.2 | (with_reducible refine Kd.C_alloc ?_ _) | (with_reducible refine Kd.C_drewN ?_ _) | (with_reducible refine Kd.C_drew ?_))); (case side2 => exact (Kd.R_reads' HO397.out).2.1); rintro e w22 ⟨v404, rfl, ho0, hb⟩; have n0_ := Aside0.mk (Kd.R_below (by (with_reducible repeat (first | apply Kd.R_alloc | apply Kd.R_drewN | apply Kd.R_drew)); exact HO397.out) hb); have n1_ := Aside0.mk (Kd.R_below (by (with_reducible repeat (first | apply Kd.R_alloc | apply Kd.R_drewN | apply Kd.R_drew)); exact HO401.out) hb); have n2_ := Aside0.mk (Kd.R_lower ho0 (below_size (by repeat (first | (with_reducible first | exact HB.out | apply below_alloc | apply pw_below_drewN | apply below_drew1) | exact HB.out)))); have n3_ := Aside0.mk (below_step (by repeat (first | (with_reducible first | exact HB.out | apply below_alloc | apply pw_below_drewN | apply below_drew1) | exact HB.out)) hb); clear HO397; clear HO401; clear HB; have HO397 := n0_; have HO401 := n1_; have HO405 := n2_; have HB := n3_; clear n0_ n1_ n2_ n3_; (try clear hb); (try clear hb2); (try clear hk); (try clear hi); (try clear ho0); obtain ⟨Ao23, co23, eo23⟩ := Kd.R_slice HO405.out; subst eo23) | (go_at_call 24; (with_reducible refine (laws_contains.calls k _ _ t403 t393 false _ ?side1 ?side2 A14.out).mono ?_); (case side1 => repeat (first | exact (Kd.R_reads' HO405.out).2.2 | (with_reducible refine Kd.C_alloc ?_ _) | (with_reducible refine Kd.C_drewN ?_ _) | (with_reducible refine Kd.C_drew ?_))); (case side2 => exact (Kd.R_reads' HO405.out).2.1); rintro e w' ⟨rfl, ⟨nd, rfl⟩⟩))
      go_meet
      case rel => exact ⟨_, (true), (by first | rfl | (simp; done) | (simp [*]; done)), H', ⟨by first | omega | exact Nat.le_refl _⟩, ⟨by repeat (first | (with_reducible first | exact HB.out | apply below_alloc | apply pw_below_drewN | apply below_drew1) | exact HB.out)⟩⟩
    ·replace c12 := Bool.eq_false_iff.mpr c12
     subst c12
     have H1 : (laws_FnBurdens.j0 k l0 true) = some r := by rw [if_neg (show ¬ (false = true) by decide)] at H; exact H
     clear H
     have H := H1
     clear H1
     have H' := Aside0.mk H
     clear H
     obtain ⟨Ao24, co24, eo24⟩ := Kd.R_slice HO401.out
     subst eo24
     go_wp2_with (first | (go_at_call 23; (with_reducible refine (impl_ArePoints.calls k _ _ t398 false _ ?side1 ?side2 A11.out).mono ?_); (case side1 => repeat (first | exact (Kd.R_reads' HO401.out).2.2 | (with_reducible refine Kd.C_alloc ?_ _) | (with_reducible refine Kd.C_drewN ?_ _) | (with_reducible refine Kd.C_drew ?_))); (case side2 => exact (Kd.R_reads' HO401.out).2.1); rintro e w25 ⟨rfl, hb⟩; have n0_ := Aside0.mk (Kd.R_below (by (with_reducible repeat (first | apply Kd.R_alloc | apply Kd.R_drewN | apply Kd.R_drew)); exact HO397.out) hb); have n1_ := Aside0.mk (Kd.R_below (by (with_reducible repeat (first | apply Kd.R_alloc | apply Kd.R_drewN | apply Kd.R_drew)); exact HO401.out) hb); have n2_ := Aside0.mk (below_step (by repeat (first | (with_reducible first | exact HB.out | apply below_alloc | apply pw_below_drewN | apply below_drew1) | exact HB.out)) hb); clear HO397; clear HO401; clear HB; have HO397 := n0_; have HO401 := n1_; have HB := n2_; clear n0_ n1_ n2_; (try clear hb); (try clear hb2); (try clear hk); (try clear hi)))
     go_meet
     case rel => exact ⟨_, (true), (by first | rfl | (simp; done) | (simp [*]; done)), H', ⟨by first | omega | exact Nat.le_refl _⟩, ⟨by repeat (first | (with_reducible first | exact HB.out | apply below_alloc | apply pw_below_drewN | apply below_drew1) | exact HB.out)⟩⟩
   ·replace c10 := Bool.eq_false_iff.mpr c10
    subst c10
    have H1 : (laws_FnBurdens.j0 k l0 ((t398.length : Int) != (t392.length : Int))) = some r := by rw [if_neg (show ¬ (false = true) by decide)] at H; exact H
    clear H
    have H := H1
    clear H1
    have H' := Aside0.mk H
    clear H
    obtain ⟨Ao26, co26, eo26⟩ := Kd.R_slice HO401.out
    subst eo26
    go_wp2
    go_meet
    case rel => exact ⟨_, (((t398.length : Int) != (t392.length : Int))), (by first | rfl | (simp; done) | (simp [*]; done)), H', ⟨by first | omega | exact Nat.le_refl _⟩, ⟨by repeat (first | (with_reducible first | exact HB.out | apply below_alloc | apply pw_below_drewN | apply below_drew1) | exact HB.out)⟩⟩
  case rest =>
   clear HC6
   try clear c1
   try clear c2
   try clear p2
   try clear c3
   try clear c6
   try clear c10
   try clear c12
   try clear c15
   try clear c17
   try clear c21
   try clear c22
   obtain ⟨kq, x56_5, rfl, HA, HJ5, HB⟩ := hcut
   cases kq with
   | zero => exact absurd HA.out (by simp [laws_FnBurdens.j0])
   | succ kj5 =>
    have H := HA.out
    clear HA
    simp only [laws_FnBurdens.j0] at H
    by_cases c27 : x56_5 = true
    ·subst c27
     have H1 : (some false) = some r := by rw [if_pos rfl] at H; exact H
     clear H
     have H := H1
     clear H1
     obtain rfl := Option.some.inj H
     go_wp2
     all_goals go_ret
     all_goals exact ⟨by first | rfl | (simp [errW_none, errW_some] <;> rfl) | (simp [*, errW_none, errW_some] <;> rfl), by repeat (first | (with_reducible first | exact HB.out | apply below_alloc | apply pw_below_drewN | apply below_drew1) | exact HB.out)⟩
    ·replace c27 := Bool.eq_false_iff.mpr c27
     subst c27
     have H1 : ((spec_DrawRaise.f kj5 l0).bind fun bt407 => ((impl_Raise.f kj5 bt407.1 bt407.2.1 bt407.2.2).bind fun bt412 => (if bt412.2 = true then ((impl_ArePoints.f kj5 bt412.1).bind fun t416 => (if t416 = true then (if (bt412.1.length : Int) = (wrap64 ((bt407.1.length : Int) + 1)) then ((impl_MustSpeak.f kj5 bt412.1 (wrap64 (3 - bt407.2.2))).bind fun t417 => ((laws_contains.f kj5 t417 bt407.2.1).bind fun t420 => (if t420 = true then (laws_FnBurdens.j1 kj5 l0 false) else (laws_FnBurdens.j1 kj5 l0 true)))) else (laws_FnBurdens.j1 kj5 l0 true)) else (laws_FnBurdens.j1 kj5 l0 true))) else (laws_FnBurdens.j1 kj5 l0 ((bt412.1.length : Int) != (bt407.1.length : Int)))))) = some r := by rw [if_neg (show ¬ (false = true) by decide)] at H; exact H
     clear H
     have H := H1
     clear H1
     replace H := Option.bind_eq_some_iff.mp H
     obtain ⟨⟨t407, t408, t409⟩, A280, H⟩ := H
     replace H : ((impl_Raise.f kj5 t407 t408 t409).bind fun bt412 => (if bt412.2 = true then ((impl_ArePoints.f kj5 bt412.1).bind fun t416 => (if t416 = true then (if (bt412.1.length : Int) = (wrap64 ((t407.length : Int) + 1)) then ((impl_MustSpeak.f kj5 bt412.1 (wrap64 (3 - t409))).bind fun t417 => ((laws_contains.f kj5 t417 t408).bind fun t420 => (if t420 = true then (laws_FnBurdens.j1 kj5 l0 false) else (laws_FnBurdens.j1 kj5 l0 true)))) else (laws_FnBurdens.j1 kj5 l0 true)) else (laws_FnBurdens.j1 kj5 l0 true))) else (laws_FnBurdens.j1 kj5 l0 ((bt412.1.length : Int) != (t407.length : Int))))) = some r := H
     have A28 := Aside0.mk A280
     clear A280
     replace H := Option.bind_eq_some_iff.mp H
     obtain ⟨⟨t412, t413⟩, A290, H⟩ := H
     replace H : (if t413 = true then ((impl_ArePoints.f kj5 t412).bind fun t416 => (if t416 = true then (if (t412.length : Int) = (wrap64 ((t407.length : Int) + 1)) then ((impl_MustSpeak.f kj5 t412 (wrap64 (3 - t409))).bind fun t417 => ((laws_contains.f kj5 t417 t408).bind fun t420 => (if t420 = true then (laws_FnBurdens.j1 kj5 l0 false) else (laws_FnBurdens.j1 kj5 l0 true)))) else (laws_FnBurdens.j1 kj5 l0 true)) else (laws_FnBurdens.j1 kj5 l0 true))) else (laws_FnBurdens.j1 kj5 l0 ((t412.length : Int) != (t407.length : Int)))) = some r := H
     have A29 := Aside0.mk A290
     clear A290
     have HC30 := Aside0.mk H
     clear H
     go_upto_region 9 with (first | ((with_reducible refine gate_callee (f := 25) rfl ?_); refine goesL_ (some 59) rfl rfl Try.func25 (by kernel_rfl) rfl #[.slice A0 l0.length c0] rfl (by (try simp only [List.map_toArray, List.map_cons, List.map_nil]); first | done | rfl | (simp only [List.length_drop, List.length_take]; rfl)) ?_; (with_reducible refine (spec_DrawRaise.calls kj5 _ _ l0 t407 t408 t409 _ ?side1 ?side2 A28.out).mono ?_); (case side1 => repeat (first | exact (Kd.C_below HR0.out HB.out) | (with_reducible refine Kd.C_alloc ?_ _) | (with_reducible refine Kd.C_drewN ?_ _) | (with_reducible refine Kd.C_drew ?_))); (case side2 => exact HC0.out); rintro e w31 ⟨v410, rfl, ho0, hb⟩; refine ⟨_, rfl, ?_⟩; have n0_ := Aside0.mk (Kd.R_lower ho0 (below_size (by repeat (first | (with_reducible first | exact HB.out | apply below_alloc | apply pw_below_drewN | apply below_drew1) | exact HB.out)))); have n1_ := Aside0.mk (below_step (by repeat (first | (with_reducible first | exact HB.out | apply below_alloc | apply pw_below_drewN | apply below_drew1) | exact HB.out)) hb); clear HB; have HO411 := n0_; have HB := n1_; clear n0_ n1_; (try clear hb); (try clear hb2); (try clear hk); (try clear hi); (try clear ho0); obtain ⟨Ao32, co32, eo32⟩ := Kd.R_slice HO411.out; subst eo32) | ((with_reducible refine gate_callee (f := 20) rfl ?_); refine goesL_ (some 67) rfl rfl Try.func20 (by kernel_rfl) rfl #[.slice Ao32 t407.length co32, .int .i64 t408, .int .i64 t409] rfl (by (try simp only [List.map_toArray, List.map_cons, List.map_nil]); first | done | rfl | (simp only [List.length_drop, List.length_take]; rfl)) ?_; (with_reducible refine (impl_Raise.calls kj5 _ _ t407 t408 t409 t412 t413 _ ?side1 ?side2 A29.out).mono ?_); (case side1 => repeat (first | exact (Kd.R_reads' HO411.out).2.2 | (with_reducible refine Kd.C_alloc ?_ _) | (with_reducible refine Kd.C_drewN ?_ _) | (with_reducible refine Kd.C_drew ?_))); (case side2 => exact (Kd.R_reads' HO411.out).2.1); rintro e w33 ⟨v414, rfl, ho0, hb⟩; refine ⟨_, rfl, ?_⟩; have n0_ := Aside0.mk (Kd.R_elder' (by (with_reducible repeat (first | apply Kd.R_alloc | apply Kd.R_drewN | apply Kd.R_drew)); exact HO411.out) (Kd.R_base ho0) hb); have n1_ := Aside0.mk (Kd.R_lower (Kd.R_new' ho0 (Kd.R_lt (by (with_reducible repeat (first | apply Kd.R_alloc | apply Kd.R_drewN | apply Kd.R_drew)); exact HO411.out))) (below_size (by repeat (first | (with_reducible first | exact HB.out | apply below_alloc | apply pw_below_drewN | apply below_drew1) | exact HB.out)))); have n2_ := Aside0.mk (below_step (by repeat (first | (with_reducible first | exact HB.out | apply below_alloc | apply pw_below_drewN | apply below_drew1) | exact HB.out)) hb); clear HO411; clear HB; have HO411 := n0_; have HO415 := n1_; have HB := n2_; clear n0_ n1_ n2_; (try clear hb); (try clear hb2); (try clear hk); (try clear hi); (try clear ho0)))
     (try simp only [Act.put, List.setIfInBounds_toArray, List.set_cons_zero, List.set_cons_succ])
     go_cut [103] (fun v103 wc => ∃ (kq : Nat) (x103_29 : Bool), v103 = .bool x103_29 ∧ Aside0 (laws_FnBurdens.j1 kq l0 x103_29 = some r) ∧ Aside0 (kq ≤ kj5) ∧ Aside0 (Below w.heap.size w wc))
     case first =>
      have H := HC30.out
      clear HC30
      by_cases c34 : t413 = true
      ·subst c34
       have H1 : ((impl_ArePoints.f kj5 t412).bind fun t416 => (if t416 = true then (if (t412.length : Int) = (wrap64 ((t407.length : Int) + 1)) then ((impl_MustSpeak.f kj5 t412 (wrap64 (3 - t409))).bind fun t417 => ((laws_contains.f kj5 t417 t408).bind fun t420 => (if t420 = true then (laws_FnBurdens.j1 kj5 l0 false) else (laws_FnBurdens.j1 kj5 l0 true)))) else (laws_FnBurdens.j1 kj5 l0 true)) else (laws_FnBurdens.j1 kj5 l0 true))) = some r := by rw [if_pos rfl] at H; exact H
       clear H
       have H := H1
       clear H1
       replace H := Option.bind_eq_some_iff.mp H
       obtain ⟨t416, A350, H⟩ := H
       replace H : (if t416 = true then (if (t412.length : Int) = (wrap64 ((t407.length : Int) + 1)) then ((impl_MustSpeak.f kj5 t412 (wrap64 (3 - t409))).bind fun t417 => ((laws_contains.f kj5 t417 t408).bind fun t420 => (if t420 = true then (laws_FnBurdens.j1 kj5 l0 false) else (laws_FnBurdens.j1 kj5 l0 true)))) else (laws_FnBurdens.j1 kj5 l0 true)) else (laws_FnBurdens.j1 kj5 l0 true)) = some r := H
       have A35 := Aside0.mk A350
       clear A350
       by_cases c36 : t416 = true
       ·subst c36
        have H1 : (if (t412.length : Int) = (wrap64 ((t407.length : Int) + 1)) then ((impl_MustSpeak.f kj5 t412 (wrap64 (3 - t409))).bind fun t417 => ((laws_contains.f kj5 t417 t408).bind fun t420 => (if t420 = true then (laws_FnBurdens.j1 kj5 l0 false) else (laws_FnBurdens.j1 kj5 l0 true)))) else (laws_FnBurdens.j1 kj5 l0 true)) = some r := by rw [if_pos rfl] at H; exact H
        clear H
        have H := H1
        clear H1
        by_cases c37 : (t412.length : Int) = (wrap64 ((t407.length : Int) + 1))
        ·rw [if_pos c37] at H
         have c37b0 : ((t412.length : Int) == (wrap64 ((t407.length : Int) + 1))) = true := beq_iff_eq.mpr c37
         have c37b1 : ((t412.length : Int) != (wrap64 ((t407.length : Int) + 1))) = false := bne_eq_false_iff_eq.mpr c37
         clear c37
         (first | rw [c37b0] | (simp only [i64_w, i32_w]; rw [c37b0]) | skip)
         replace H := Option.bind_eq_some_iff.mp H
         obtain ⟨t417, A380, H⟩ := H
         replace H : ((laws_contains.f kj5 t417 t408).bind fun t420 => (if t420 = true then (laws_FnBurdens.j1 kj5 l0 false) else (laws_FnBurdens.j1 kj5 l0 true))) = some r := H
         have A38 := Aside0.mk A380
         clear A380
         replace H := Option.bind_eq_some_iff.mp H
         obtain ⟨t420, A390, H⟩ := H
         replace H : (if t420 = true then (laws_FnBurdens.j1 kj5 l0 false) else (laws_FnBurdens.j1 kj5 l0 true)) = some r := H
         have A39 := Aside0.mk A390
         clear A390
         by_cases c40 : t420 = true
         ·subst c40
          have H1 : (laws_FnBurdens.j1 kj5 l0 false) = some r := by rw [if_pos rfl] at H; exact H
          clear H
          have H := H1
          clear H1
          have H' := Aside0.mk H
          clear H
          obtain ⟨Ao41, co41, eo41⟩ := Kd.R_slice HO415.out
          subst eo41
          go_wp2_with (first | (go_at_call 23; (with_reducible refine (impl_ArePoints.calls kj5 _ _ t412 true _ ?side1 ?side2 A35.out).mono ?_); (case side1 => repeat (first | exact (Kd.R_reads' HO415.out).2.2 | (with_reducible refine Kd.C_alloc ?_ _) | (with_reducible refine Kd.C_drewN ?_ _) | (with_reducible refine Kd.C_drew ?_))); (case side2 => exact (Kd.R_reads' HO415.out).2.1); rintro e w42 ⟨rfl, hb⟩; have n0_ := Aside0.mk (Kd.R_below (by (with_reducible repeat (first | apply Kd.R_alloc | apply Kd.R_drewN | apply Kd.R_drew)); exact HO411.out) hb); have n1_ := Aside0.mk (Kd.R_below (by (with_reducible repeat (first | apply Kd.R_alloc | apply Kd.R_drewN | apply Kd.R_drew)); exact HO415.out) hb); have n2_ := Aside0.mk (below_step (by repeat (first | (with_reducible first | exact HB.out | apply below_alloc | apply pw_below_drewN | apply below_drew1) | exact HB.out)) hb); clear HO411; clear HO415; clear HB; have HO411 := n0_; have HO415 := n1_; have HB := n2_; clear n0_ n1_ n2_; (try clear hb); (try clear hb2); (try clear hk); (try clear hi)) | (go_at_call 10; refine calls_of_args (args' := #[.slice Ao41 t412.length co41, .int .i64 (wrap64 (3 - t409))]) ?harg ?_; (case harg => first | rfl | (simp only [i64_w, i32_w]; rfl) | (simp only [i64_w, i32_w]; done)); (with_reducible refine (impl_MustSpeak.calls kj5 _ _ t412 (wrap64 (3 - t409)) t417 _ ?side1 ?side2 A38.out).mono ?_); (case side1 => repeat (first | exact (Kd.R_reads' HO415.out).2.2 | (with_reducible refine Kd.C_alloc ?_ _) | (with_reducible refine Kd.C_drewN ?_ _) | (with_reducible refine Kd.C_drew ?_))); (case side2 => exact (Kd.R_reads' HO415.out).2.1); rintro e w43 ⟨v418, rfl, ho0, hb⟩; have n0_ := Aside0.mk (Kd.R_below (by (with_reducible repeat (first | apply Kd.R_alloc | apply Kd.R_drewN | apply Kd.R_drew)); exact HO411.out) hb); have n1_ := Aside0.mk (Kd.R_below (by (with_reducible repeat (first | apply Kd.R_alloc | apply Kd.R_drewN | apply Kd.R_drew)); exact HO415.out) hb); have n2_ := Aside0.mk (Kd.R_lower ho0 (below_size (by repeat (first | (with_reducible first | exact HB.out | apply below_alloc | apply pw_below_drewN | apply below_drew1) | exact HB.out)))); have n3_ := Aside0.mk (below_step (by repeat (first | (with_reducible first | exact HB.out | apply below_alloc | apply pw_below_drewN | apply below_drew1) | exact HB.out)) hb); clear HO411; clear HO415; clear HB; have HO411 := n0_; have HO415 := n1_; have HO419 := n2_; have HB := n3_; clear n0_ n1_ n2_ n3_; (try clear hb); (try clear hb2); (try clear hk); (try clear hi); (try clear ho0); obtain ⟨Ao44, co44, eo44⟩ := Kd.R_slice HO419.out; subst eo44) | (go_at_call 24; (with_reducible refine (laws_contains.calls kj5 _ _ t417 t408 true _ ?side1 ?side2 A39.out).mono ?_); (case side1 => repeat (first | exact (Kd.R_reads' HO419.out).2.2 | (with_reducible refine Kd.C_alloc ?_ _) | (with_reducible refine Kd.C_drewN ?_ _) | (with_reducible refine Kd.C_drew ?_))); (case side2 => exact (Kd.R_reads' HO419.out).2.1); rintro e w' ⟨rfl, ⟨nd, rfl⟩⟩))
          go_meet
          case rel => exact ⟨_, (false), (by first | rfl | (simp; done) | (simp [*]; done)), H', ⟨by have := HJ5.out; first | omega | exact Nat.le_refl _⟩, ⟨by repeat (first | (with_reducible first | exact HB.out | apply below_alloc | apply pw_below_drewN | apply below_drew1) | exact HB.out)⟩⟩
         ·replace c40 := Bool.eq_false_iff.mpr c40
          subst c40
          have H1 : (laws_FnBurdens.j1 kj5 l0 true) = some r := by rw [if_neg (show ¬ (false = true) by decide)] at H; exact H
          clear H
          have H := H1
          clear H1
          have H' := Aside0.mk H
          clear H
          obtain ⟨Ao45, co45, eo45⟩ := Kd.R_slice HO415.out
          subst eo45
          go_wp2_with (first | (go_at_call 23; (with_reducible refine (impl_ArePoints.calls kj5 _ _ t412 true _ ?side1 ?side2 A35.out).mono ?_); (case side1 => repeat (first | exact (Kd.R_reads' HO415.out).2.2 | (with_reducible refine Kd.C_alloc ?_ _) | (with_reducible refine Kd.C_drewN ?_ _) | (with_reducible refine Kd.C_drew ?_))); (case side2 => exact (Kd.R_reads' HO415.out).2.1); rintro e w46 ⟨rfl, hb⟩; have n0_ := Aside0.mk (Kd.R_below (by (with_reducible repeat (first | apply Kd.R_alloc | apply Kd.R_drewN | apply Kd.R_drew)); exact HO411.out) hb); have n1_ := Aside0.mk (Kd.R_below (by (with_reducible repeat (first | apply Kd.R_alloc | apply Kd.R_drewN | apply Kd.R_drew)); exact HO415.out) hb); have n2_ := Aside0.mk (below_step (by repeat (first | (with_reducible first | exact HB.out | apply below_alloc | apply pw_below_drewN | apply below_drew1) | exact HB.out)) hb); clear HO411; clear HO415; clear HB; have HO411 := n0_; have HO415 := n1_; have HB := n2_; clear n0_ n1_ n2_; (try clear hb); (try clear hb2); (try clear hk); (try clear hi)) | (go_at_call 10; refine calls_of_args (args' := #[.slice Ao45 t412.length co45, .int .i64 (wrap64 (3 - t409))]) ?harg ?_; (case harg => first | rfl | (simp only [i64_w, i32_w]; rfl) | (simp only [i64_w, i32_w]; done)); (with_reducible refine (impl_MustSpeak.calls kj5 _ _ t412 (wrap64 (3 - t409)) t417 _ ?side1 ?side2 A38.out).mono ?_); (case side1 => repeat (first | exact (Kd.R_reads' HO415.out).2.2 | (with_reducible refine Kd.C_alloc ?_ _) | (with_reducible refine Kd.C_drewN ?_ _) | (with_reducible refine Kd.C_drew ?_))); (case side2 => exact (Kd.R_reads' HO415.out).2.1); rintro e w47 ⟨v418, rfl, ho0, hb⟩; have n0_ := Aside0.mk (Kd.R_below (by (with_reducible repeat (first | apply Kd.R_alloc | apply Kd.R_drewN | apply Kd.R_drew)); exact HO411.out) hb); have n1_ := Aside0.mk (Kd.R_below (by (with_reducible repeat (first | apply Kd.R_alloc | apply Kd.R_drewN | apply Kd.R_drew)); exact HO415.out) hb); have n2_ := Aside0.mk (Kd.R_lower ho0 (below_size (by repeat (first | (with_reducible first | exact HB.out | apply below_alloc | apply pw_below_drewN | apply below_drew1) | exact HB.out)))); have n3_ := Aside0.mk (below_step (by repeat (first | (with_reducible first | exact HB.out | apply below_alloc | apply pw_below_drewN | apply below_drew1) | exact HB.out)) hb); clear HO411; clear HO415; clear HB; have HO411 := n0_; have HO415 := n1_; have HO419 := n2_; have HB := n3_; clear n0_ n1_ n2_ n3_; (try clear hb); (try clear hb2); (try clear hk); (try clear hi); (try clear ho0); obtain ⟨Ao48, co48, eo48⟩ := Kd.R_slice HO419.out; subst eo48) | (go_at_call 24; (with_reducible refine (laws_contains.calls kj5 _ _ t417 t408 false _ ?side1 ?side2 A39.out).mono ?_); (case side1 => repeat (first | exact (Kd.R_reads' HO419.out).2.2 | (with_reducible refine Kd.C_alloc ?_ _) | (with_reducible refine Kd.C_drewN ?_ _) | (with_reducible refine Kd.C_drew ?_))); (case side2 => exact (Kd.R_reads' HO419.out).2.1); rintro e w' ⟨rfl, ⟨nd, rfl⟩⟩))
          go_meet
          case rel => exact ⟨_, (true), (by first | rfl | (simp; done) | (simp [*]; done)), H', ⟨by have := HJ5.out; first | omega | exact Nat.le_refl _⟩, ⟨by repeat (first | (with_reducible first | exact HB.out | apply below_alloc | apply pw_below_drewN | apply below_drew1) | exact HB.out)⟩⟩
        ·rw [if_neg c37] at H
         have c37b0 : ((t412.length : Int) == (wrap64 ((t407.length : Int) + 1))) = false := beq_eq_false_iff_ne.mpr c37
         have c37b1 : ((t412.length : Int) != (wrap64 ((t407.length : Int) + 1))) = true := bne_iff_ne.mpr c37
         (first | rw [c37b0] | (simp only [i64_w, i32_w]; rw [c37b0]) | skip)
         have H' := Aside0.mk H
         clear H
         obtain ⟨Ao49, co49, eo49⟩ := Kd.R_slice HO415.out
         subst eo49
         go_wp2_with (first | (go_at_call 23; (with_reducible refine (impl_ArePoints.calls kj5 _ _ t412 true _ ?side1 ?side2 A35.out).mono ?_); (case side1 => repeat (first | exact (Kd.R_reads' HO415.out).2.2 | (with_reducible refine Kd.C_alloc ?_ _) | (with_reducible refine Kd.C_drewN ?_ _) | (with_reducible refine Kd.C_drew ?_))); (case side2 => exact (Kd.R_reads' HO415.out).2.1); rintro e w50 ⟨rfl, hb⟩; have n0_ := Aside0.mk (Kd.R_below (by (with_reducible repeat (first | apply Kd.R_alloc | apply Kd.R_drewN | apply Kd.R_drew)); exact HO411.out) hb); have n1_ := Aside0.mk (Kd.R_below (by (with_reducible repeat (first | apply Kd.R_alloc | apply Kd.R_drewN | apply Kd.R_drew)); exact HO415.out) hb); have n2_ := Aside0.mk (below_step (by repeat (first | (with_reducible first | exact HB.out | apply below_alloc | apply pw_below_drewN | apply below_drew1) | exact HB.out)) hb); clear HO411; clear HO415; clear HB; have HO411 := n0_; have HO415 := n1_; have HB := n2_; clear n0_ n1_ n2_; (try clear hb); (try clear hb2); (try clear hk); (try clear hi)))
         go_meet
         case rel => exact ⟨_, (true), (by first | rfl | (simp; done) | (simp [*]; done)), H', ⟨by have := HJ5.out; first | omega | exact Nat.le_refl _⟩, ⟨by repeat (first | (with_reducible first | exact HB.out | apply below_alloc | apply pw_below_drewN | apply below_drew1) | exact HB.out)⟩⟩
       ·replace c36 := Bool.eq_false_iff.mpr c36
        subst c36
        have H1 : (laws_FnBurdens.j1 kj5 l0 true) = some r := by rw [if_neg (show ¬ (false = true) by decide)] at H; exact H
        clear H
        have H := H1
        clear H1
        have H' := Aside0.mk H
        clear H
        obtain ⟨Ao51, co51, eo51⟩ := Kd.R_slice HO415.out
        subst eo51
        go_wp2_with (first | (go_at_call 23; (with_reducible refine (impl_ArePoints.calls kj5 _ _ t412 false _ ?side1 ?side2 A35.out).mono ?_); (case side1 => repeat (first | exact (Kd.R_reads' HO415.out).2.2 | (with_reducible refine Kd.C_alloc ?_ _) | (with_reducible refine Kd.C_drewN ?_ _) | (with_reducible refine Kd.C_drew ?_))); (case side2 => exact (Kd.R_reads' HO415.out).2.1); rintro e w52 ⟨rfl, hb⟩; have n0_ := Aside0.mk (Kd.R_below (by (with_reducible repeat (first | apply Kd.R_alloc | apply Kd.R_drewN | apply Kd.R_drew)); exact HO411.out) hb); have n1_ := Aside0.mk (Kd.R_below (by (with_reducible repeat (first | apply Kd.R_alloc | apply Kd.R_drewN | apply Kd.R_drew)); exact HO415.out) hb); have n2_ := Aside0.mk (below_step (by repeat (first | (with_reducible first | exact HB.out | apply below_alloc | apply pw_below_drewN | apply below_drew1) | exact HB.out)) hb); clear HO411; clear HO415; clear HB; have HO411 := n0_; have HO415 := n1_; have HB := n2_; clear n0_ n1_ n2_; (try clear hb); (try clear hb2); (try clear hk); (try clear hi)))
        go_meet
        case rel => exact ⟨_, (true), (by first | rfl | (simp; done) | (simp [*]; done)), H', ⟨by have := HJ5.out; first | omega | exact Nat.le_refl _⟩, ⟨by repeat (first | (with_reducible first | exact HB.out | apply below_alloc | apply pw_below_drewN | apply below_drew1) | exact HB.out)⟩⟩
      ·replace c34 := Bool.eq_false_iff.mpr c34
       subst c34
       have H1 : (laws_FnBurdens.j1 kj5 l0 ((t412.length : Int) != (t407.length : Int))) = some r := by rw [if_neg (show ¬ (false = true) by decide)] at H; exact H
       clear H
       have H := H1
       clear H1
       have H' := Aside0.mk H
       clear H
       obtain ⟨Ao53, co53, eo53⟩ := Kd.R_slice HO415.out
       subst eo53
       go_wp2
       go_meet
       case rel => exact ⟨_, (((t412.length : Int) != (t407.length : Int))), (by first | rfl | (simp; done) | (simp [*]; done)), H', ⟨by have := HJ5.out; first | omega | exact Nat.le_refl _⟩, ⟨by repeat (first | (with_reducible first | exact HB.out | apply below_alloc | apply pw_below_drewN | apply below_drew1) | exact HB.out)⟩⟩
     case rest =>
      clear HC30
      try clear c1
      try clear c2
      try clear p2
      try clear c3
      try clear c4
      try clear c6
      try clear p6
      try clear c10
      try clear c12
      try clear c15
      try clear c17
      try clear c20
      try clear c21
      try clear c22
      try clear c25
      try clear c27
      try clear c34
      try clear c36
      try clear c37
      try clear c37b0
      try clear c37b1
      try clear c40
      try clear p2
      obtain ⟨kq, x103_29, rfl, HA, HJ29, HB⟩ := hcut
      cases kq with
      | zero => exact absurd HA.out (by simp [laws_FnBurdens.j1])
      | succ kj29 =>
       have H := HA.out
       clear HA
       simp only [laws_FnBurdens.j1] at H
       by_cases c54 : x103_29 = true
       ·subst c54
        have H1 : (some false) = some r := by rw [if_pos rfl] at H; exact H
        clear H
        have H := H1
        clear H1
        obtain rfl := Option.some.inj H
        go_wp2
        all_goals go_ret
        all_goals exact ⟨by first | rfl | (simp [errW_none, errW_some] <;> rfl) | (simp [*, errW_none, errW_some] <;> rfl), by repeat (first | (with_reducible first | exact HB.out | apply below_alloc | apply pw_below_drewN | apply below_drew1) | exact HB.out)⟩
       ·replace c54 := Bool.eq_false_iff.mpr c54
        subst c54
        have H1 : ((spec_DrawIsSettled.f kj29 l0).bind fun t421 => ((impl_IsSettled.f kj29 t421).bind fun t424 => (if t424 = true then (laws_FnBurdens.l0 kj29 l0 t421 0) else ((spec_DrawWon.f kj29 l0).bind fun bt432 => ((impl_Won.f kj29 bt432.1 bt432.2).bind fun t436 => (if t436 ≤ (bt432.1.length : Int) then (some (decide (t436 ≥ (wrap64 (-(bt432.1.length : Int)))))) else (some false))))))) = some r := by rw [if_neg (show ¬ (false = true) by decide)] at H; exact H
        clear H
        have H := H1
        clear H1
        replace H := Option.bind_eq_some_iff.mp H
        obtain ⟨t421, A550, H⟩ := H
        replace H : ((impl_IsSettled.f kj29 t421).bind fun t424 => (if t424 = true then (laws_FnBurdens.l0 kj29 l0 t421 0) else ((spec_DrawWon.f kj29 l0).bind fun bt432 => ((impl_Won.f kj29 bt432.1 bt432.2).bind fun t436 => (if t436 ≤ (bt432.1.length : Int) then (some (decide (t436 ≥ (wrap64 (-(bt432.1.length : Int)))))) else (some false)))))) = some r := H
        have A55 := Aside0.mk A550
        clear A550
        replace H := Option.bind_eq_some_iff.mp H
        obtain ⟨t424, A560, H⟩ := H
        replace H : (if t424 = true then (laws_FnBurdens.l0 kj29 l0 t421 0) else ((spec_DrawWon.f kj29 l0).bind fun bt432 => ((impl_Won.f kj29 bt432.1 bt432.2).bind fun t436 => (if t436 ≤ (bt432.1.length : Int) then (some (decide (t436 ≥ (wrap64 (-(bt432.1.length : Int)))))) else (some false))))) = some r := H
        have A56 := Aside0.mk A560
        clear A560
        by_cases c57 : t424 = true
        ·subst c57
         have H1 : (laws_FnBurdens.l0 kj29 l0 t421 0) = some r := by rw [if_pos rfl] at H; exact H
         clear H
         have H := H1
         clear H1
         have H' := Aside0.mk H
         clear H
         go_wp2_with (first | ((with_reducible refine gate_callee (f := 26) rfl ?_); refine goesL_ (some 105) rfl rfl Try.func26 (by kernel_rfl) rfl #[.slice A0 l0.length c0] rfl (by (try simp only [List.map_toArray, List.map_cons, List.map_nil]); first | done | rfl | (simp only [List.length_drop, List.length_take]; rfl)) ?_; (with_reducible refine (spec_DrawIsSettled.calls kj29 _ _ l0 t421 _ ?side1 ?side2 A55.out).mono ?_); (case side1 => repeat (first | exact (Kd.C_below HR0.out HB.out) | (with_reducible refine Kd.C_alloc ?_ _) | (with_reducible refine Kd.C_drewN ?_ _) | (with_reducible refine Kd.C_drew ?_))); (case side2 => exact HC0.out); rintro e w58 ⟨v422, rfl, ho0, hb⟩; refine ⟨_, rfl, ?_⟩; have n0_ := Aside0.mk (Kd.R_lower ho0 (below_size (by repeat (first | (with_reducible first | exact HB.out | apply below_alloc | apply pw_below_drewN | apply below_drew1) | exact HB.out)))); have n1_ := Aside0.mk (below_step (by repeat (first | (with_reducible first | exact HB.out | apply below_alloc | apply pw_below_drewN | apply below_drew1) | exact HB.out)) hb); clear HB; have HO423 := n0_; have HB := n1_; clear n0_ n1_; (try clear hb); (try clear hb2); (try clear hk); (try clear hi); (try clear ho0); obtain ⟨Ao59, co59, eo59⟩ := Kd.R_slice HO423.out; subst eo59) | ((with_reducible refine gate_callee (f := 27) rfl ?_); refine goesL_ (some 107) rfl rfl Try.func27 (by kernel_rfl) rfl #[.slice Ao59 t421.length co59] rfl (by (try simp only [List.map_toArray, List.map_cons, List.map_nil]); first | done | rfl | (simp only [List.length_drop, List.length_take]; rfl)) ?_; (with_reducible refine (impl_IsSettled.calls kj29 _ _ t421 true _ ?side1 ?side2 A56.out).mono ?_); (case side1 => repeat (first | exact (Kd.R_reads' HO423.out).2.2 | (with_reducible refine Kd.C_alloc ?_ _) | (with_reducible refine Kd.C_drewN ?_ _) | (with_reducible refine Kd.C_drew ?_))); (case side2 => exact (Kd.R_reads' HO423.out).2.1); rintro e w60 ⟨rfl, hb⟩; refine ⟨_, rfl, ?_⟩; have n0_ := Aside0.mk (Kd.R_below (by (with_reducible repeat (first | apply Kd.R_alloc | apply Kd.R_drewN | apply Kd.R_drew)); exact HO423.out) hb); have n1_ := Aside0.mk (below_step (by repeat (first | (with_reducible first | exact HB.out | apply below_alloc | apply pw_below_drewN | apply below_drew1) | exact HB.out)) hb); clear HO423; clear HB; have HO423 := n0_; have HB := n1_; clear n0_ n1_; (try clear hb); (try clear hb2); (try clear hk); (try clear hi)))
         go_loopg [15] kj29 (fun kq v15 w' => ∃ (x15_3 : Int), v15 = .int .i64 x15_3 ∧ Aside0 (laws_FnBurdens.l0 kq l0 t421 x15_3 = some r) ∧ Aside0 (kq ≤ kj29) ∧ Aside0 (Kd.R k48 48 w' w.heap.size (fun _ => True) (.slice Ao59 t421.length co59) t421) ∧ Aside0 (Below w.heap.size w w'))
         case atStart => exact ⟨(0), (by first | rfl | (simp; done) | (simp [*]; done)), H', ⟨Nat.le_refl _⟩, ⟨by (with_reducible repeat (first | apply Kd.R_alloc | apply Kd.R_drewN | apply Kd.R_drew)); exact HO423.out⟩, ⟨by repeat (first | (with_reducible first | exact HB.out | apply below_alloc | apply pw_below_drewN | apply below_drew1) | exact HB.out)⟩⟩
         case round =>
          clear H'
          try clear c1
          try clear c2
          try clear p2
          try clear c3
          try clear c4
          try clear c5
          try clear c6
          try clear p6
          try clear c10
          try clear c12
          try clear c15
          try clear c17
          try clear c20
          try clear c21
          try clear c22
          try clear c25
          try clear c26
          try clear c27
          try clear c34
          try clear c36
          try clear c37
          try clear c37b0
          try clear c37b1
          try clear c40
          try clear c54
          try clear c57
          try clear p2
          try clear p6
          obtain ⟨x15_3, rfl, HA, HK3, HO_14, HB⟩ := hrel
          cases gk with
          | zero => exact absurd HA.out (by simp [laws_FnBurdens.l0])
          | succ k3 =>
           have H := HA.out
           clear HA
           simp only [laws_FnBurdens.l0] at H
           by_cases c61 : x15_3 < (t421.length : Int)
           ·rw [if_pos c61] at H
            have c61b0 : decide (x15_3 < (t421.length : Int)) = true := decide_eq_true c61
            clear c61
            by_cases c62 : 0 ≤ x15_3
            ·rw [if_pos c62] at H
             have c62b0 : decide (0 ≤ x15_3) = true := decide_eq_true c62
             clear c62
             by_cases c63 : ((rd_T48 t421 x15_3).f2) = 0
             ·rw [if_pos c63] at H
              have c63b0 : (((rd_T48 t421 x15_3).f2) == 0) = true := beq_iff_eq.mpr c63
              have c63b1 : (((rd_T48 t421 x15_3).f2) != 0) = false := bne_eq_false_iff_eq.mpr c63
              clear c63
              obtain rfl := Option.some.inj H
              have p425 : 0 ≤ (x15_3 : Int) := of_decide_eq_true (by first | (with_reducible assumption) | assumption)
              have q425 : x15_3 < (t421.length : Int) := of_decide_eq_true (by first | (with_reducible assumption) | assumption)
              obtain ⟨ad425, e425, hx425_0, hx425_1, hx425_2⟩ := at_T48 (Kd.R_reads' HO_14.out).2.2 x15_3 p425 q425
              cases e425
              replace p425 := eq_true p425
              replace q425 := eq_true q425
              go_wp2
              all_goals go_ret
              all_goals exact ⟨by first | rfl | (simp [errW_none, errW_some] <;> rfl) | (simp [*, errW_none, errW_some] <;> rfl), by repeat (first | (with_reducible first | exact HB.out | apply below_alloc | apply pw_below_drewN | apply below_drew1) | exact HB.out)⟩
             ·rw [if_neg c63] at H
              have c63b0 : (((rd_T48 t421 x15_3).f2) == 0) = false := beq_eq_false_iff_ne.mpr c63
              have c63b1 : (((rd_T48 t421 x15_3).f2) != 0) = true := bne_iff_ne.mpr c63
              by_cases c64 : ((rd_T48 t421 x15_3).f2) = 2
              ·rw [if_pos c64] at H
               have c64b0 : (((rd_T48 t421 x15_3).f2) == 2) = true := beq_iff_eq.mpr c64
               have c64b1 : (((rd_T48 t421 x15_3).f2) != 2) = false := bne_eq_false_iff_eq.mpr c64
               clear c64
               obtain rfl := Option.some.inj H
               have p425 : 0 ≤ (x15_3 : Int) := of_decide_eq_true (by first | (with_reducible assumption) | assumption)
               have q425 : x15_3 < (t421.length : Int) := of_decide_eq_true (by first | (with_reducible assumption) | assumption)
               obtain ⟨ad425, e425, hx425_0, hx425_1, hx425_2⟩ := at_T48 (Kd.R_reads' HO_14.out).2.2 x15_3 p425 q425
               cases e425
               replace p425 := eq_true p425
               replace q425 := eq_true q425
               have p426 : 0 ≤ (x15_3 : Int) := of_decide_eq_true (by first | (with_reducible assumption) | assumption)
               have q426 : x15_3 < (t421.length : Int) := of_decide_eq_true (by first | (with_reducible assumption) | assumption)
               obtain ⟨ad426, e426, hx426_0, hx426_1, hx426_2⟩ := at_T48 (Kd.R_reads' HO_14.out).2.2 x15_3 p426 q426
               obtain rfl : ad425 = ad426 := (by injection e426)
               replace p426 := eq_true p426
               replace q426 := eq_true q426
               go_wp2
               all_goals go_ret
               all_goals exact ⟨by first | rfl | (simp [errW_none, errW_some] <;> rfl) | (simp [*, errW_none, errW_some] <;> rfl), by repeat (first | (with_reducible first | exact HB.out | apply below_alloc | apply pw_below_drewN | apply below_drew1) | exact HB.out)⟩
              ·rw [if_neg c64] at H
               have c64b0 : (((rd_T48 t421 x15_3).f2) == 2) = false := beq_eq_false_iff_ne.mpr c64
               have c64b1 : (((rd_T48 t421 x15_3).f2) != 2) = true := bne_iff_ne.mpr c64
               have H' := Aside0.mk H
               clear H
               have p425 : 0 ≤ (x15_3 : Int) := of_decide_eq_true (by first | (with_reducible assumption) | assumption)
               have q425 : x15_3 < (t421.length : Int) := of_decide_eq_true (by first | (with_reducible assumption) | assumption)
               obtain ⟨ad425, e425, hx425_0, hx425_1, hx425_2⟩ := at_T48 (Kd.R_reads' HO_14.out).2.2 x15_3 p425 q425
               cases e425
               replace p425 := eq_true p425
               replace q425 := eq_true q425
               have p426 : 0 ≤ (x15_3 : Int) := of_decide_eq_true (by first | (with_reducible assumption) | assumption)
               have q426 : x15_3 < (t421.length : Int) := of_decide_eq_true (by first | (with_reducible assumption) | assumption)
               obtain ⟨ad426, e426, hx426_0, hx426_1, hx426_2⟩ := at_T48 (Kd.R_reads' HO_14.out).2.2 x15_3 p426 q426
               obtain rfl : ad425 = ad426 := (by injection e426)
               replace p426 := eq_true p426
               replace q426 := eq_true q426
               go_wp2
               go_roundg k3
               case measure => have := HJ5.out; have := HJ29.out; have := HK3.out; omega
               case rel => exact ⟨(wrap64 (x15_3 + 1)), (by first | rfl | (simp; done) | (simp [*]; done)), H', ⟨by have := HJ5.out; have := HJ29.out; have := HK3.out; omega⟩, ⟨by (with_reducible repeat (first | apply Kd.R_alloc | apply Kd.R_drewN | apply Kd.R_drew)); exact HO_14.out⟩, ⟨by repeat (first | (with_reducible first | exact HB.out | apply below_alloc | apply pw_below_drewN | apply below_drew1) | exact HB.out)⟩⟩
            ·rw [if_neg c62] at H
             exact absurd H (by simp)
           ·rw [if_neg c61] at H
            have c61b0 : decide (x15_3 < (t421.length : Int)) = false := decide_eq_false c61
            clear c61
            replace H := Option.bind_eq_some_iff.mp H
            obtain ⟨⟨t427, t428⟩, A650, H⟩ := H
            replace H : ((impl_Won.f k3 t427 t428).bind fun t431 => (if t431 ≤ (t427.length : Int) then (some (decide (t431 ≥ (wrap64 (-(t427.length : Int)))))) else (some false))) = some r := H
            have A65 := Aside0.mk A650
            clear A650
            replace H := Option.bind_eq_some_iff.mp H
            obtain ⟨t431, A660, H⟩ := H
            replace H : (if t431 ≤ (t427.length : Int) then (some (decide (t431 ≥ (wrap64 (-(t427.length : Int)))))) else (some false)) = some r := H
            have A66 := Aside0.mk A660
            clear A660
            by_cases c67 : t431 ≤ (t427.length : Int)
            ·rw [if_pos c67] at H
             have c67b0 : decide (t431 ≤ (t427.length : Int)) = true := decide_eq_true c67
             clear c67
             obtain rfl := Option.some.inj H
             go_wp2_with (first | ((with_reducible refine gate_callee (f := 28) rfl ?_); refine goesL_ (some 130) rfl rfl Try.func28 (by kernel_rfl) rfl #[.slice A0 l0.length c0] rfl (by (try simp only [List.map_toArray, List.map_cons, List.map_nil]); first | done | rfl | (simp only [List.length_drop, List.length_take]; rfl)) ?_; (with_reducible refine (spec_DrawWon.calls k3 _ _ l0 t427 t428 _ ?side1 ?side2 A65.out).mono ?_); (case side1 => repeat (first | exact (Kd.C_below HR0.out HB.out) | (with_reducible refine Kd.C_alloc ?_ _) | (with_reducible refine Kd.C_drewN ?_ _) | (with_reducible refine Kd.C_drew ?_))); (case side2 => exact HC0.out); rintro e w68 ⟨v429, rfl, ho0, hb⟩; refine ⟨_, rfl, ?_⟩; have n0_ := Aside0.mk (Kd.R_elder' (by (with_reducible repeat (first | apply Kd.R_alloc | apply Kd.R_drewN | apply Kd.R_drew)); exact HO_14.out) (Kd.R_base ho0) hb); have n1_ := Aside0.mk (Kd.R_lower (Kd.R_new' ho0 (Kd.R_lt (by (with_reducible repeat (first | apply Kd.R_alloc | apply Kd.R_drewN | apply Kd.R_drew)); exact HO_14.out))) (below_size (by repeat (first | (with_reducible first | exact HB.out | apply below_alloc | apply pw_below_drewN | apply below_drew1) | exact HB.out)))); have n2_ := Aside0.mk (below_step (by repeat (first | (with_reducible first | exact HB.out | apply below_alloc | apply pw_below_drewN | apply below_drew1) | exact HB.out)) hb); clear HO_14; clear HB; have HO_14 := n0_; have HO430 := n1_; have HB := n2_; clear n0_ n1_ n2_; (try clear hb); (try clear hb2); (try clear hk); (try clear hi); (try clear ho0); obtain ⟨Ao69, co69, eo69⟩ := Kd.R_slice HO430.out; subst eo69) | ((with_reducible refine gate_callee (f := 29) rfl ?_); refine goesL_ (some 135) rfl rfl Try.func29 (by kernel_rfl) rfl #[.slice Ao69 t427.length co69, .int .i64 t428] rfl (by (try simp only [List.map_toArray, List.map_cons, List.map_nil]); first | done | rfl | (simp only [List.length_drop, List.length_take]; rfl)) ?_; (with_reducible refine (impl_Won.calls k3 _ _ t427 t428 t431 _ ?side1 ?side2 A66.out).mono ?_); (case side1 => repeat (first | exact (Kd.R_reads' HO430.out).2.2 | (with_reducible refine Kd.C_alloc ?_ _) | (with_reducible refine Kd.C_drewN ?_ _) | (with_reducible refine Kd.C_drew ?_))); (case side2 => exact (Kd.R_reads' HO430.out).2.1); rintro e w70 ⟨rfl, hb⟩; refine ⟨_, rfl, ?_⟩; have n0_ := Aside0.mk (Kd.R_below (by (with_reducible repeat (first | apply Kd.R_alloc | apply Kd.R_drewN | apply Kd.R_drew)); exact HO_14.out) hb); have n1_ := Aside0.mk (Kd.R_below (by (with_reducible repeat (first | apply Kd.R_alloc | apply Kd.R_drewN | apply Kd.R_drew)); exact HO430.out) hb); have n2_ := Aside0.mk (below_step (by repeat (first | (with_reducible first | exact HB.out | apply below_alloc | apply pw_below_drewN | apply below_drew1) | exact HB.out)) hb); clear HO_14; clear HO430; clear HB; have HO_14 := n0_; have HO430 := n1_; have HB := n2_; clear n0_ n1_ n2_; (try clear hb); (try clear hb2); (try clear hk); (try clear hi)))
             all_goals go_ret
             all_goals exact ⟨by first | rfl | (simp [errW_none, errW_some] <;> rfl) | (simp [*, errW_none, errW_some] <;> rfl), by repeat (first | (with_reducible first | exact HB.out | apply below_alloc | apply pw_below_drewN | apply below_drew1) | exact HB.out)⟩
            ·rw [if_neg c67] at H
             have c67b0 : decide (t431 ≤ (t427.length : Int)) = false := decide_eq_false c67
             clear c67
             obtain rfl := Option.some.inj H
             go_wp2_with (first | ((with_reducible refine gate_callee (f := 28) rfl ?_); refine goesL_ (some 130) rfl rfl Try.func28 (by kernel_rfl) rfl #[.slice A0 l0.length c0] rfl (by (try simp only [List.map_toArray, List.map_cons, List.map_nil]); first | done | rfl | (simp only [List.length_drop, List.length_take]; rfl)) ?_; (with_reducible refine (spec_DrawWon.calls k3 _ _ l0 t427 t428 _ ?side1 ?side2 A65.out).mono ?_); (case side1 => repeat (first | exact (Kd.C_below HR0.out HB.out) | (with_reducible refine Kd.C_alloc ?_ _) | (with_reducible refine Kd.C_drewN ?_ _) | (with_reducible refine Kd.C_drew ?_))); (case side2 => exact HC0.out); rintro e w71 ⟨v429, rfl, ho0, hb⟩; refine ⟨_, rfl, ?_⟩; have n0_ := Aside0.mk (Kd.R_elder' (by (with_reducible repeat (first | apply Kd.R_alloc | apply Kd.R_drewN | apply Kd.R_drew)); exact HO_14.out) (Kd.R_base ho0) hb); have n1_ := Aside0.mk (Kd.R_lower (Kd.R_new' ho0 (Kd.R_lt (by (with_reducible repeat (first | apply Kd.R_alloc | apply Kd.R_drewN | apply Kd.R_drew)); exact HO_14.out))) (below_size (by repeat (first | (with_reducible first | exact HB.out | apply below_alloc | apply pw_below_drewN | apply below_drew1) | exact HB.out)))); have n2_ := Aside0.mk (below_step (by repeat (first | (with_reducible first | exact HB.out | apply below_alloc | apply pw_below_drewN | apply below_drew1) | exact HB.out)) hb); clear HO_14; clear HB; have HO_14 := n0_; have HO430 := n1_; have HB := n2_; clear n0_ n1_ n2_; (try clear hb); (try clear hb2); (try clear hk); (try clear hi); (try clear ho0); obtain ⟨Ao72, co72, eo72⟩ := Kd.R_slice HO430.out; subst eo72) | ((with_reducible refine gate_callee (f := 29) rfl ?_); refine goesL_ (some 135) rfl rfl Try.func29 (by kernel_rfl) rfl #[.slice Ao72 t427.length co72, .int .i64 t428] rfl (by (try simp only [List.map_toArray, List.map_cons, List.map_nil]); first | done | rfl | (simp only [List.length_drop, List.length_take]; rfl)) ?_; (with_reducible refine (impl_Won.calls k3 _ _ t427 t428 t431 _ ?side1 ?side2 A66.out).mono ?_); (case side1 => repeat (first | exact (Kd.R_reads' HO430.out).2.2 | (with_reducible refine Kd.C_alloc ?_ _) | (with_reducible refine Kd.C_drewN ?_ _) | (with_reducible refine Kd.C_drew ?_))); (case side2 => exact (Kd.R_reads' HO430.out).2.1); rintro e w73 ⟨rfl, hb⟩; refine ⟨_, rfl, ?_⟩; have n0_ := Aside0.mk (Kd.R_below (by (with_reducible repeat (first | apply Kd.R_alloc | apply Kd.R_drewN | apply Kd.R_drew)); exact HO_14.out) hb); have n1_ := Aside0.mk (Kd.R_below (by (with_reducible repeat (first | apply Kd.R_alloc | apply Kd.R_drewN | apply Kd.R_drew)); exact HO430.out) hb); have n2_ := Aside0.mk (below_step (by repeat (first | (with_reducible first | exact HB.out | apply below_alloc | apply pw_below_drewN | apply below_drew1) | exact HB.out)) hb); clear HO_14; clear HO430; clear HB; have HO_14 := n0_; have HO430 := n1_; have HB := n2_; clear n0_ n1_ n2_; (try clear hb); (try clear hb2); (try clear hk); (try clear hi)))
             all_goals go_ret
             all_goals exact ⟨by first | rfl | (simp [errW_none, errW_some] <;> rfl) | (simp [*, errW_none, errW_some] <;> rfl), by repeat (first | (with_reducible first | exact HB.out | apply below_alloc | apply pw_below_drewN | apply below_drew1) | exact HB.out)⟩
        ·replace c57 := Bool.eq_false_iff.mpr c57
         subst c57
         have H1 : ((spec_DrawWon.f kj29 l0).bind fun bt432 => ((impl_Won.f kj29 bt432.1 bt432.2).bind fun t436 => (if t436 ≤ (bt432.1.length : Int) then (some (decide (t436 ≥ (wrap64 (-(bt432.1.length : Int)))))) else (some false)))) = some r := by rw [if_neg (show ¬ (false = true) by decide)] at H; exact H
         clear H
         have H := H1
         clear H1
         replace H := Option.bind_eq_some_iff.mp H
         obtain ⟨⟨t432, t433⟩, A740, H⟩ := H
         replace H : ((impl_Won.f kj29 t432 t433).bind fun t436 => (if t436 ≤ (t432.length : Int) then (some (decide (t436 ≥ (wrap64 (-(t432.length : Int)))))) else (some false))) = some r := H
         have A74 := Aside0.mk A740
         clear A740
         replace H := Option.bind_eq_some_iff.mp H
         obtain ⟨t436, A750, H⟩ := H
         replace H : (if t436 ≤ (t432.length : Int) then (some (decide (t436 ≥ (wrap64 (-(t432.length : Int)))))) else (some false)) = some r := H
         have A75 := Aside0.mk A750
         clear A750
         by_cases c76 : t436 ≤ (t432.length : Int)
         ·rw [if_pos c76] at H
          have c76b0 : decide (t436 ≤ (t432.length : Int)) = true := decide_eq_true c76
          clear c76
          obtain rfl := Option.some.inj H
          go_wp2_with (first | ((with_reducible refine gate_callee (f := 26) rfl ?_); refine goesL_ (some 105) rfl rfl Try.func26 (by kernel_rfl) rfl #[.slice A0 l0.length c0] rfl (by (try simp only [List.map_toArray, List.map_cons, List.map_nil]); first | done | rfl | (simp only [List.length_drop, List.length_take]; rfl)) ?_; (with_reducible refine (spec_DrawIsSettled.calls kj29 _ _ l0 t421 _ ?side1 ?side2 A55.out).mono ?_); (case side1 => repeat (first | exact (Kd.C_below HR0.out HB.out) | (with_reducible refine Kd.C_alloc ?_ _) | (with_reducible refine Kd.C_drewN ?_ _) | (with_reducible refine Kd.C_drew ?_))); (case side2 => exact HC0.out); rintro e w77 ⟨v422, rfl, ho0, hb⟩; refine ⟨_, rfl, ?_⟩; have n0_ := Aside0.mk (Kd.R_lower ho0 (below_size (by repeat (first | (with_reducible first | exact HB.out | apply below_alloc | apply pw_below_drewN | apply below_drew1) | exact HB.out)))); have n1_ := Aside0.mk (below_step (by repeat (first | (with_reducible first | exact HB.out | apply below_alloc | apply pw_below_drewN | apply below_drew1) | exact HB.out)) hb); clear HB; have HO423 := n0_; have HB := n1_; clear n0_ n1_; (try clear hb); (try clear hb2); (try clear hk); (try clear hi); (try clear ho0); obtain ⟨Ao78, co78, eo78⟩ := Kd.R_slice HO423.out; subst eo78) | ((with_reducible refine gate_callee (f := 27) rfl ?_); refine goesL_ (some 107) rfl rfl Try.func27 (by kernel_rfl) rfl #[.slice Ao78 t421.length co78] rfl (by (try simp only [List.map_toArray, List.map_cons, List.map_nil]); first | done | rfl | (simp only [List.length_drop, List.length_take]; rfl)) ?_; (with_reducible refine (impl_IsSettled.calls kj29 _ _ t421 false _ ?side1 ?side2 A56.out).mono ?_); (case side1 => repeat (first | exact (Kd.R_reads' HO423.out).2.2 | (with_reducible refine Kd.C_alloc ?_ _) | (with_reducible refine Kd.C_drewN ?_ _) | (with_reducible refine Kd.C_drew ?_))); (case side2 => exact (Kd.R_reads' HO423.out).2.1); rintro e w79 ⟨rfl, hb⟩; refine ⟨_, rfl, ?_⟩; have n0_ := Aside0.mk (Kd.R_below (by (with_reducible repeat (first | apply Kd.R_alloc | apply Kd.R_drewN | apply Kd.R_drew)); exact HO423.out) hb); have n1_ := Aside0.mk (below_step (by repeat (first | (with_reducible first | exact HB.out | apply below_alloc | apply pw_below_drewN | apply below_drew1) | exact HB.out)) hb); clear HO423; clear HB; have HO423 := n0_; have HB := n1_; clear n0_ n1_; (try clear hb); (try clear hb2); (try clear hk); (try clear hi)) | ((with_reducible refine gate_callee (f := 28) rfl ?_); refine goesL_ (some 130) rfl rfl Try.func28 (by kernel_rfl) rfl #[.slice A0 l0.length c0] rfl (by (try simp only [List.map_toArray, List.map_cons, List.map_nil]); first | done | rfl | (simp only [List.length_drop, List.length_take]; rfl)) ?_; (with_reducible refine (spec_DrawWon.calls kj29 _ _ l0 t432 t433 _ ?side1 ?side2 A74.out).mono ?_); (case side1 => repeat (first | exact (Kd.C_below HR0.out HB.out) | (with_reducible refine Kd.C_alloc ?_ _) | (with_reducible refine Kd.C_drewN ?_ _) | (with_reducible refine Kd.C_drew ?_))); (case side2 => exact HC0.out); rintro e w80 ⟨v434, rfl, ho0, hb⟩; refine ⟨_, rfl, ?_⟩; have n0_ := Aside0.mk (Kd.R_elder' (by (with_reducible repeat (first | apply Kd.R_alloc | apply Kd.R_drewN | apply Kd.R_drew)); exact HO423.out) (Kd.R_base ho0) hb); have n1_ := Aside0.mk (Kd.R_lower (Kd.R_new' ho0 (Kd.R_lt (by (with_reducible repeat (first | apply Kd.R_alloc | apply Kd.R_drewN | apply Kd.R_drew)); exact HO423.out))) (below_size (by repeat (first | (with_reducible first | exact HB.out | apply below_alloc | apply pw_below_drewN | apply below_drew1) | exact HB.out)))); have n2_ := Aside0.mk (below_step (by repeat (first | (with_reducible first | exact HB.out | apply below_alloc | apply pw_below_drewN | apply below_drew1) | exact HB.out)) hb); clear HO423; clear HB; have HO423 := n0_; have HO435 := n1_; have HB := n2_; clear n0_ n1_ n2_; (try clear hb); (try clear hb2); (try clear hk); (try clear hi); (try clear ho0); obtain ⟨Ao81, co81, eo81⟩ := Kd.R_slice HO435.out; subst eo81) | ((with_reducible refine gate_callee (f := 29) rfl ?_); refine goesL_ (some 135) rfl rfl Try.func29 (by kernel_rfl) rfl #[.slice Ao81 t432.length co81, .int .i64 t433] rfl (by (try simp only [List.map_toArray, List.map_cons, List.map_nil]); first | done | rfl | (simp only [List.length_drop, List.length_take]; rfl)) ?_; (with_reducible refine (impl_Won.calls kj29 _ _ t432 t433 t436 _ ?side1 ?side2 A75.out).mono ?_); (case side1 => repeat (first | exact (Kd.R_reads' HO435.out).2.2 | (with_reducible refine Kd.C_alloc ?_ _) | (with_reducible refine Kd.C_drewN ?_ _) | (with_reducible refine Kd.C_drew ?_))); (case side2 => exact (Kd.R_reads' HO435.out).2.1); rintro e w82 ⟨rfl, hb⟩; refine ⟨_, rfl, ?_⟩; have n0_ := Aside0.mk (Kd.R_below (by (with_reducible repeat (first | apply Kd.R_alloc | apply Kd.R_drewN | apply Kd.R_drew)); exact HO423.out) hb); have n1_ := Aside0.mk (Kd.R_below (by (with_reducible repeat (first | apply Kd.R_alloc | apply Kd.R_drewN | apply Kd.R_drew)); exact HO435.out) hb); have n2_ := Aside0.mk (below_step (by repeat (first | (with_reducible first | exact HB.out | apply below_alloc | apply pw_below_drewN | apply below_drew1) | exact HB.out)) hb); clear HO423; clear HO435; clear HB; have HO423 := n0_; have HO435 := n1_; have HB := n2_; clear n0_ n1_ n2_; (try clear hb); (try clear hb2); (try clear hk); (try clear hi)))
          all_goals go_ret
          all_goals exact ⟨by first | rfl | (simp [errW_none, errW_some] <;> rfl) | (simp [*, errW_none, errW_some] <;> rfl), by repeat (first | (with_reducible first | exact HB.out | apply below_alloc | apply pw_below_drewN | apply below_drew1) | exact HB.out)⟩
         ·rw [if_neg c76] at H
          have c76b0 : decide (t436 ≤ (t432.length : Int)) = false := decide_eq_false c76
          clear c76
          obtain rfl := Option.some.inj H
          go_wp2_with (first | ((with_reducible refine gate_callee (f := 26) rfl ?_); refine goesL_ (some 105) rfl rfl Try.func26 (by kernel_rfl) rfl #[.slice A0 l0.length c0] rfl (by (try simp only [List.map_toArray, List.map_cons, List.map_nil]); first | done | rfl | (simp only [List.length_drop, List.length_take]; rfl)) ?_; (with_reducible refine (spec_DrawIsSettled.calls kj29 _ _ l0 t421 _ ?side1 ?side2 A55.out).mono ?_); (case side1 => repeat (first | exact (Kd.C_below HR0.out HB.out) | (with_reducible refine Kd.C_alloc ?_ _) | (with_reducible refine Kd.C_drewN ?_ _) | (with_reducible refine Kd.C_drew ?_))); (case side2 => exact HC0.out); rintro e w83 ⟨v422, rfl, ho0, hb⟩; refine ⟨_, rfl, ?_⟩; have n0_ := Aside0.mk (Kd.R_lower ho0 (below_size (by repeat (first | (with_reducible first | exact HB.out | apply below_alloc | apply pw_below_drewN | apply below_drew1) | exact HB.out)))); have n1_ := Aside0.mk (below_step (by repeat (first | (with_reducible first | exact HB.out | apply below_alloc | apply pw_below_drewN | apply below_drew1) | exact HB.out)) hb); clear HB; have HO423 := n0_; have HB := n1_; clear n0_ n1_; (try clear hb); (try clear hb2); (try clear hk); (try clear hi); (try clear ho0); obtain ⟨Ao84, co84, eo84⟩ := Kd.R_slice HO423.out; subst eo84) | ((with_reducible refine gate_callee (f := 27) rfl ?_); refine goesL_ (some 107) rfl rfl Try.func27 (by kernel_rfl) rfl #[.slice Ao84 t421.length co84] rfl (by (try simp only [List.map_toArray, List.map_cons, List.map_nil]); first | done | rfl | (simp only [List.length_drop, List.length_take]; rfl)) ?_; (with_reducible refine (impl_IsSettled.calls kj29 _ _ t421 false _ ?side1 ?side2 A56.out).mono ?_); (case side1 => repeat (first | exact (Kd.R_reads' HO423.out).2.2 | (with_reducible refine Kd.C_alloc ?_ _) | (with_reducible refine Kd.C_drewN ?_ _) | (with_reducible refine Kd.C_drew ?_))); (case side2 => exact (Kd.R_reads' HO423.out).2.1); rintro e w85 ⟨rfl, hb⟩; refine ⟨_, rfl, ?_⟩; have n0_ := Aside0.mk (Kd.R_below (by (with_reducible repeat (first | apply Kd.R_alloc | apply Kd.R_drewN | apply Kd.R_drew)); exact HO423.out) hb); have n1_ := Aside0.mk (below_step (by repeat (first | (with_reducible first | exact HB.out | apply below_alloc | apply pw_below_drewN | apply below_drew1) | exact HB.out)) hb); clear HO423; clear HB; have HO423 := n0_; have HB := n1_; clear n0_ n1_; (try clear hb); (try clear hb2); (try clear hk); (try clear hi)) | ((with_reducible refine gate_callee (f := 28) rfl ?_); refine goesL_ (some 130) rfl rfl Try.func28 (by kernel_rfl) rfl #[.slice A0 l0.length c0] rfl (by (try simp only [List.map_toArray, List.map_cons, List.map_nil]); first | done | rfl | (simp only [List.length_drop, List.length_take]; rfl)) ?_; (with_reducible refine (spec_DrawWon.calls kj29 _ _ l0 t432 t433 _ ?side1 ?side2 A74.out).mono ?_); (case side1 => repeat (first | exact (Kd.C_below HR0.out HB.out) | (with_reducible refine Kd.C_alloc ?_ _) | (with_reducible refine Kd.C_drewN ?_ _) | (with_reducible refine Kd.C_drew ?_))); (case side2 => exact HC0.out); rintro e w86 ⟨v434, rfl, ho0, hb⟩; refine ⟨_, rfl, ?_⟩; have n0_ := Aside0.mk (Kd.R_elder' (by (with_reducible repeat (first | apply Kd.R_alloc | apply Kd.R_drewN | apply Kd.R_drew)); exact HO423.out) (Kd.R_base ho0) hb); have n1_ := Aside0.mk (Kd.R_lower (Kd.R_new' ho0 (Kd.R_lt (by (with_reducible repeat (first | apply Kd.R_alloc | apply Kd.R_drewN | apply Kd.R_drew)); exact HO423.out))) (below_size (by repeat (first | (with_reducible first | exact HB.out | apply below_alloc | apply pw_below_drewN | apply below_drew1) | exact HB.out)))); have n2_ := Aside0.mk (below_step (by repeat (first | (with_reducible first | exact HB.out | apply below_alloc | apply pw_below_drewN | apply below_drew1) | exact HB.out)) hb); clear HO423; clear HB; have HO423 := n0_; have HO435 := n1_; have HB := n2_; clear n0_ n1_ n2_; (try clear hb); (try clear hb2); (try clear hk); (try clear hi); (try clear ho0); obtain ⟨Ao87, co87, eo87⟩ := Kd.R_slice HO435.out; subst eo87) | ((with_reducible refine gate_callee (f := 29) rfl ?_); refine goesL_ (some 135) rfl rfl Try.func29 (by kernel_rfl) rfl #[.slice Ao87 t432.length co87, .int .i64 t433] rfl (by (try simp only [List.map_toArray, List.map_cons, List.map_nil]); first | done | rfl | (simp only [List.length_drop, List.length_take]; rfl)) ?_; (with_reducible refine (impl_Won.calls kj29 _ _ t432 t433 t436 _ ?side1 ?side2 A75.out).mono ?_); (case side1 => repeat (first | exact (Kd.R_reads' HO435.out).2.2 | (with_reducible refine Kd.C_alloc ?_ _) | (with_reducible refine Kd.C_drewN ?_ _) | (with_reducible refine Kd.C_drew ?_))); (case side2 => exact (Kd.R_reads' HO435.out).2.1); rintro e w88 ⟨rfl, hb⟩; refine ⟨_, rfl, ?_⟩; have n0_ := Aside0.mk (Kd.R_below (by (with_reducible repeat (first | apply Kd.R_alloc | apply Kd.R_drewN | apply Kd.R_drew)); exact HO423.out) hb); have n1_ := Aside0.mk (Kd.R_below (by (with_reducible repeat (first | apply Kd.R_alloc | apply Kd.R_drewN | apply Kd.R_drew)); exact HO435.out) hb); have n2_ := Aside0.mk (below_step (by repeat (first | (with_reducible first | exact HB.out | apply below_alloc | apply pw_below_drewN | apply below_drew1) | exact HB.out)) hb); clear HO423; clear HO435; clear HB; have HO423 := n0_; have HO435 := n1_; have HB := n2_; clear n0_ n1_ n2_; (try clear hb); (try clear hb2); (try clear hk); (try clear hi)))
          all_goals go_ret
          all_goals exact ⟨by first | rfl | (simp [errW_none, errW_some] <;> rfl) | (simp [*, errW_none, errW_some] <;> rfl), by repeat (first | (with_reducible first | exact HB.out | apply below_alloc | apply pw_below_drewN | apply below_drew1) | exact HB.out)⟩

/-- THE ONE PURE STATEMENT of laws_FnBurdens: yours. -/
def laws_FnBurdens.Pure : Prop := ∀ (l0 : List Int), l0.length ≤ maxLen → l0.length * 1 ≤ 140737488351232 → (∀ x ∈ l0, (Lit.int .u8 x).wf = true) → ∃ k, laws_FnBurdens.f k l0 = some true
theorem laws_FnBurdens.walk (P : laws_FnBurdens.Pure) (a0 : Option Addr) (len0 cap0 : Nat) (z0 : List Int) (w : World) (w0 : (a0 = none ∧ len0 = 0 ∧ cap0 = 0 ∧ z0 = []) ∨ ∃ x, a0 = some x ∧ len0 ≤ cap0 ∧ cap0 ≤ maxLen ∧ z0.length = cap0 ∧ (∀ i, i < z0.length → w.cell? (x.add i) = some (.int .u8 (z0.getD i 0))) ∧ ∀ n ∈ z0, (Lit.int .u8 n).wf = true) (y0 : len0 * 1 ≤ 140737488351232) :
  Calls Try.prog 6 #[.slice a0 len0 cap0] w fun e w' => e = .returned (.bool true) ∧ Below w.heap.size w w' := by
 obtain ⟨l0, rfl, hr0, hm0, hw0, hc0⟩ := ReadsInt.ofRowC w0
 obtain ⟨k, h⟩ := P l0 hm0 y0 hw0
 refine (laws_FnBurdens.calls k _ _ l0 true w (Kd.C_of_reads (d := (0 : Int)) (h1 := fun _ => rfl) hr0) hc0 h).mono ?_
 rintro e w' ⟨rfl, hd⟩
 exact ⟨rfl, hd⟩

end Go.Proofs.Ytjidlgimnigllaa.PFnBurdens
