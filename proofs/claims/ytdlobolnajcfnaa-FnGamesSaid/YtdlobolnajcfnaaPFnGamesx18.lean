-- Written by a program of this session (hooks of mine on the print): Lean checks it.
import Derived.Test.YtdlobolnajcfnaaPFnGamesx0
import Derived.Test.YtdlobolnajcfnaaPFnGamesx3
import Derived.Test.YtdlobolnajcfnaaPFnGamesx5
import Derived.Test.YtdlobolnajcfnaaPFnGamesx6
import Derived.Test.YtdlobolnajcfnaaPFnGamesx8
import Derived.Test.YtdlobolnajcfnaaPFnGamesx13
import Derived.Test.YtdlobolnajcfnaaPFnGamesx14
import Derived.Test.YtdlobolnajcfnaaPFnGamesx15
import Derived.Test.YtdlobolnajcfnaaPFnGamesx16
import Derived.Test.YtdlobolnajcfnaaPFnGamesx17
namespace Go.Proofs.Ytdlobolnajcfnaa.PFnGames
open Go.RowKit Go.Proofs.YtdlobolnajcfnaaW.PrintWords Go.Proofs.YtdlobolnajcfnaaW.PrintLast Go.Proofs.YtdlobolnajcfnaaW.PrintMore
attribute [local go_sem] max2_int min2_int max_two min_two max_three min_three max_four min_four   -- for this text's walks alone
set_option linter.unusedVariables false
set_option linter.unusedSimpArgs false

/-! ### laws_FnGames: function 6 -/
def laws_FnGames.j0 : Nat → List Int → Bool → Option (Bool)
 | 0, _, _ => none
 | k + 1, x0, x47 => if x47 = true then (some false) else ((spec_DrawWinnerOf.f k x0).bind fun bt540 => ((impl_WinnerOf.f k bt540.1 bt540.2.1 bt540.2.2).bind fun t548 => ((impl_IsLine.f k bt540.1 bt540.2.1 bt540.2.2).bind fun t549 => (if ((t548.toList != ([] : List UInt8)) != t549) = true then (some false) else ((impl_IsLine.f k bt540.1 bt540.2.1 bt540.2.2).bind fun t550 => (if t550 = true then ((impl_LongestGame.f k bt540.1 bt540.2.1).bind fun t551 => (if (bt540.2.2.length : Int) > t551 then (some false) else (if t548.toList = ([102, 105, 114, 115, 116] : List UInt8) then (if ((bt540.2.2.length : Int) % 2) = 1 then (if 0 ≤ (wrap64 ((bt540.2.2.length : Int) - 1)) then (if (wrap64 ((bt540.2.2.length : Int) - 1)) < (bt540.2.2.length : Int) then ((impl_AttackersOf.f k bt540.1 bt540.2.1 (rd bt540.2.2 (wrap64 ((bt540.2.2.length : Int) - 1)))).bind fun t553 => (some ((t553.length : Int) == 0))) else (none)) else (none)) else (some false)) else (some true)))) else (if t548.toList = ([102, 105, 114, 115, 116] : List UInt8) then (if ((bt540.2.2.length : Int) % 2) = 1 then (if 0 ≤ (wrap64 ((bt540.2.2.length : Int) - 1)) then (if (wrap64 ((bt540.2.2.length : Int) - 1)) < (bt540.2.2.length : Int) then ((impl_AttackersOf.f k bt540.1 bt540.2.1 (rd bt540.2.2 (wrap64 ((bt540.2.2.length : Int) - 1)))).bind fun t557 => (some ((t557.length : Int) == 0))) else (none)) else (none)) else (some false)) else (some true))))))))
def laws_FnGames.f (k : Nat) (l0 : List Int) : Option (Bool) := (laws_big.f l0).bind fun t514 => (if t514 = true then (some true) else ((spec_DrawCanWin.f k l0).bind fun bt515 => ((impl_CanWin.f k bt515.1 bt515.2.1 bt515.2.2).bind fun t521 => ((impl_Grounded.f k bt515.1 bt515.2.1).bind fun t522 => ((laws_contains.f k t522 bt515.2.2).bind fun t525 => (if (t521 != t525) = true then (some false) else ((spec_DrawBestAnswer.f k l0).bind fun bt526 => ((impl_BestAnswer.f k bt526.1 bt526.2.1 bt526.2.2.1 bt526.2.2.2).bind fun t535 => (if t535 ≥ 0 then ((impl_AnswersTo.f k bt526.1 bt526.2.1 bt526.2.2.1 bt526.2.2.2).bind fun t536 => ((laws_contains.f k t536 t535).bind fun t539 => (laws_FnGames.j0 k l0 (!t539)))) else (laws_FnGames.j0 k l0 false))))))))))
theorem laws_FnGames.mono_l : ∀ k, (∀ y0 y1, LeO (laws_FnGames.j0 k y0 y1) (laws_FnGames.j0 (k + 1) y0 y1))
 | 0 => fun _ _ r h => by simp [laws_FnGames.j0] at h
 | k + 1 => by
  have ih0 := laws_FnGames.mono_l k
  ·intro y0 y1
   unfold laws_FnGames.j0
   repeat' first
   | (with_reducible exact ih0 _ _)
   | (with_reducible exact impl_AnswersTo.mono _ _ _ _ _)
   | (with_reducible exact impl_AttackersOf.mono _ _ _ _)
   | (with_reducible exact impl_BestAnswer.mono _ _ _ _ _)
   | (with_reducible exact impl_CanWin.mono _ _ _ _)
   | (with_reducible exact impl_Grounded.mono _ _ _)
   | (with_reducible exact impl_IsLine.mono _ _ _ _)
   | (with_reducible exact impl_LongestGame.mono _ _ _)
   | (with_reducible exact impl_WinnerOf.mono _ _ _ _)
   | (with_reducible exact laws_contains.mono _ _ _)
   | (with_reducible exact spec_DrawBestAnswer.mono _ _)
   | (with_reducible exact spec_DrawCanWin.mono _ _)
   | (with_reducible exact spec_DrawWinnerOf.mono _ _)
   | (with_reducible exact ZJ _)
   | (with_reducible exact Zn _)
   | (with_reducible refine Zt ?_ ?_)
   | (with_reducible refine Zo ?_ (fun _ => ?_))
   | exact ih0 _ _
   | exact impl_AnswersTo.mono _ _ _ _ _
   | exact impl_AttackersOf.mono _ _ _ _
   | exact impl_BestAnswer.mono _ _ _ _ _
   | exact impl_CanWin.mono _ _ _ _
   | exact impl_Grounded.mono _ _ _
   | exact impl_IsLine.mono _ _ _ _
   | exact impl_LongestGame.mono _ _ _
   | exact impl_WinnerOf.mono _ _ _ _
   | exact laws_contains.mono _ _ _
   | exact spec_DrawBestAnswer.mono _ _
   | exact spec_DrawCanWin.mono _ _
   | exact spec_DrawWinnerOf.mono _ _
   | exact Zn _
   | refine Zt ?_ ?_
   | refine Zo ?_ (fun _ => ?_)
theorem laws_FnGames.mono : ∀ a0 k, LeO (laws_FnGames.f k a0) (laws_FnGames.f (k + 1) a0) := by
 intro a0 k
 have ih0 := laws_FnGames.mono_l k
 unfold laws_FnGames.f
 repeat' first
   | (with_reducible exact ih0 _ _)
   | (with_reducible exact impl_AnswersTo.mono _ _ _ _ _)
   | (with_reducible exact impl_AttackersOf.mono _ _ _ _)
   | (with_reducible exact impl_BestAnswer.mono _ _ _ _ _)
   | (with_reducible exact impl_CanWin.mono _ _ _ _)
   | (with_reducible exact impl_Grounded.mono _ _ _)
   | (with_reducible exact impl_IsLine.mono _ _ _ _)
   | (with_reducible exact impl_LongestGame.mono _ _ _)
   | (with_reducible exact impl_WinnerOf.mono _ _ _ _)
   | (with_reducible exact laws_contains.mono _ _ _)
   | (with_reducible exact spec_DrawBestAnswer.mono _ _)
   | (with_reducible exact spec_DrawCanWin.mono _ _)
   | (with_reducible exact spec_DrawWinnerOf.mono _ _)
   | (with_reducible exact ZJ _)
   | (with_reducible exact Zn _)
   | (with_reducible refine Zt ?_ ?_)
   | (with_reducible refine Zo ?_ (fun _ => ?_))
   | exact ih0 _ _
   | exact impl_AnswersTo.mono _ _ _ _ _
   | exact impl_AttackersOf.mono _ _ _ _
   | exact impl_BestAnswer.mono _ _ _ _ _
   | exact impl_CanWin.mono _ _ _ _
   | exact impl_Grounded.mono _ _ _
   | exact impl_IsLine.mono _ _ _ _
   | exact impl_LongestGame.mono _ _ _
   | exact impl_WinnerOf.mono _ _ _ _
   | exact laws_contains.mono _ _ _
   | exact spec_DrawBestAnswer.mono _ _
   | exact spec_DrawCanWin.mono _ _
   | exact spec_DrawWinnerOf.mono _ _
   | exact Zn _
   | refine Zt ?_ ?_
   | refine Zo ?_ (fun _ => ?_)
def laws_FnGames.T4 : Bool × List (List Nat × List Nat) := (true, [([], []), ([], []), ([0, 1], [0, 1]), ([], []), ([3, 2], [3]), ([], []), ([4, 5, 4], [4, 5]), ([2, 6], [2, 6])])
def laws_FnGames.B4 : List Nat := [0, 0, 3, 0, 15, 0, 63, 127]
theorem laws_FnGames.tab4 : rtab .any (opsOf Try.f6 4) = laws_FnGames.T4 := by kernel_rfl
theorem laws_FnGames.bits4 : waitsOk laws_FnGames.T4.2 laws_FnGames.B4 = true := by kernel_rfl
def laws_FnGames.T14 : Bool × List (List Nat × List Nat) := (true, [([], []), ([0], [0]), ([1], [1]), ([2], [2]), ([3, 2], [2, 3]), ([4, 2], [2, 4]), ([5, 2], [2, 5]), ([6, 2, 2], [2, 6]), ([7], [7]), ([7], [7]), ([7], [7]), ([10, 7], [7, 10]), ([11, 7], [7, 11]), ([9, 12, 7], [7, 9, 12]), ([13, 7], [7, 13]), ([8, 14, 7, 7], [7, 8, 14]), ([15, 7], [7, 15]), ([16, 7], [7, 16]), ([7, 17, 2], [2, 7, 17]), ([2, 18], [2, 18]), ([19, 15, 0, 1, 2, 3, 4, 5, 6, 7, 8, 9, 10, 11, 12, 13, 14, 15, 16, 17, 18, 19], [19])])
def laws_FnGames.B14 : List Nat := [0, 1, 3, 7, 15, 31, 63, 127, 255, 255, 255, 1279, 3327, 7935, 16127, 32767, 65535, 131071, 262143, 524287, 1048575]
theorem laws_FnGames.tab14 : rtab .any (opsOf Try.f6 14) = laws_FnGames.T14 := by kernel_rfl
theorem laws_FnGames.bits14 : waitsOk laws_FnGames.T14.2 laws_FnGames.B14 = true := by kernel_rfl
set_option maxHeartbeats 8000000 in
set_option maxRecDepth 100000 in
theorem laws_FnGames.calls (k : Nat) (A0 : Option Addr) (c0 : Nat) (l0 : List Int) (r : Bool) (w : World) (hr0 : Kd.C (Kd.int .u8) w A0 l0.length l0) (hc0 : l0.length ≤ c0) (h : laws_FnGames.f k l0 = some r) :
  Calls Try.prog 6 #[.slice A0 l0.length c0] w fun e w' => e = .returned (.bool r) ∧ Below w.heap.size w w' := by
 have hu27 := Try.underlying27
 have HR0 := Aside0.mk hr0
 have HC0 := Aside0.mk hc0
 clear hr0 hc0
 have HB := Aside0.mk (Below.refl w.heap.size w)
 have H : ((laws_big.f l0).bind fun t514 => (if t514 = true then (some true) else ((spec_DrawCanWin.f k l0).bind fun bt515 => ((impl_CanWin.f k bt515.1 bt515.2.1 bt515.2.2).bind fun t521 => ((impl_Grounded.f k bt515.1 bt515.2.1).bind fun t522 => ((laws_contains.f k t522 bt515.2.2).bind fun t525 => (if (t521 != t525) = true then (some false) else ((spec_DrawBestAnswer.f k l0).bind fun bt526 => ((impl_BestAnswer.f k bt526.1 bt526.2.1 bt526.2.2.1 bt526.2.2.2).bind fun t535 => (if t535 ≥ 0 then ((impl_AnswersTo.f k bt526.1 bt526.2.1 bt526.2.2.1 bt526.2.2.2).bind fun t536 => ((laws_contains.f k t536 t535).bind fun t539 => (laws_FnGames.j0 k l0 (!t539)))) else (laws_FnGames.j0 k l0 false))))))))))) = some r := h
 clear h
 replace H := Option.bind_eq_some_iff.mp H
 obtain ⟨t514, A20, H⟩ := H
 replace H : (if t514 = true then (some true) else ((spec_DrawCanWin.f k l0).bind fun bt515 => ((impl_CanWin.f k bt515.1 bt515.2.1 bt515.2.2).bind fun t521 => ((impl_Grounded.f k bt515.1 bt515.2.1).bind fun t522 => ((laws_contains.f k t522 bt515.2.2).bind fun t525 => (if (t521 != t525) = true then (some false) else ((spec_DrawBestAnswer.f k l0).bind fun bt526 => ((impl_BestAnswer.f k bt526.1 bt526.2.1 bt526.2.2.1 bt526.2.2.2).bind fun t535 => (if t535 ≥ 0 then ((impl_AnswersTo.f k bt526.1 bt526.2.1 bt526.2.2.1 bt526.2.2.2).bind fun t536 => ((laws_contains.f k t536 t535).bind fun t539 => (laws_FnGames.j0 k l0 (!t539)))) else (laws_FnGames.j0 k l0 false)))))))))) = some r := H
 have A2 := Aside0.mk A20
 clear A20
 by_cases c3 : t514 = true
 ·subst c3
  have H1 : (some true) = some r := by rw [if_pos rfl] at H; exact H
  clear H
  have H := H1
  clear H1
  obtain rfl := Option.some.inj H
  go_enter Try.func6, Try.ntmps6
  go_wp2_with (first | ((with_reducible refine Zj (f := 18) rfl ?_); refine ZE (some 13) rfl rfl Try.func18 (by kernel_rfl) rfl #[.slice A0 l0.length c0] rfl ar_ ?_; (with_reducible refine (laws_big.calls _ _ l0 true _ ?side1 ?side2 A2.out).mono ?_); (case side1 => repeat (first | exact HR0.out | (with_reducible refine ZB ?_ _) | (with_reducible refine ZA ?_ _) | (with_reducible refine ZG ?_))); (case side2 => exact HC0.out); rintro e w' ⟨rfl, ⟨nd, rfl⟩⟩; refine ⟨_, rfl, ?_⟩))
  all_goals go_ret
  all_goals exact ⟨er_, hB_⟩
 ·replace c3 := Bool.eq_false_iff.mpr c3
  subst c3
  have H1 : ((spec_DrawCanWin.f k l0).bind fun bt515 => ((impl_CanWin.f k bt515.1 bt515.2.1 bt515.2.2).bind fun t521 => ((impl_Grounded.f k bt515.1 bt515.2.1).bind fun t522 => ((laws_contains.f k t522 bt515.2.2).bind fun t525 => (if (t521 != t525) = true then (some false) else ((spec_DrawBestAnswer.f k l0).bind fun bt526 => ((impl_BestAnswer.f k bt526.1 bt526.2.1 bt526.2.2.1 bt526.2.2.2).bind fun t535 => (if t535 ≥ 0 then ((impl_AnswersTo.f k bt526.1 bt526.2.1 bt526.2.2.1 bt526.2.2.2).bind fun t536 => ((laws_contains.f k t536 t535).bind fun t539 => (laws_FnGames.j0 k l0 (!t539)))) else (laws_FnGames.j0 k l0 false))))))))) = some r := by rw [if_neg (show ¬ (false = true) by decide)] at H; exact H
  clear H
  have H := H1
  clear H1
  replace H := Option.bind_eq_some_iff.mp H
  obtain ⟨⟨t515, t516, t519⟩, A40, H⟩ := H
  replace H : ((impl_CanWin.f k t515 t516 t519).bind fun t521 => ((impl_Grounded.f k t515 t516).bind fun t522 => ((laws_contains.f k t522 t519).bind fun t525 => (if (t521 != t525) = true then (some false) else ((spec_DrawBestAnswer.f k l0).bind fun bt526 => ((impl_BestAnswer.f k bt526.1 bt526.2.1 bt526.2.2.1 bt526.2.2.2).bind fun t535 => (if t535 ≥ 0 then ((impl_AnswersTo.f k bt526.1 bt526.2.1 bt526.2.2.1 bt526.2.2.2).bind fun t536 => ((laws_contains.f k t536 t535).bind fun t539 => (laws_FnGames.j0 k l0 (!t539)))) else (laws_FnGames.j0 k l0 false)))))))) = some r := H
  have A4 := Aside0.mk A40
  clear A40
  replace H := Option.bind_eq_some_iff.mp H
  obtain ⟨t521, A50, H⟩ := H
  replace H : ((impl_Grounded.f k t515 t516).bind fun t522 => ((laws_contains.f k t522 t519).bind fun t525 => (if (t521 != t525) = true then (some false) else ((spec_DrawBestAnswer.f k l0).bind fun bt526 => ((impl_BestAnswer.f k bt526.1 bt526.2.1 bt526.2.2.1 bt526.2.2.2).bind fun t535 => (if t535 ≥ 0 then ((impl_AnswersTo.f k bt526.1 bt526.2.1 bt526.2.2.1 bt526.2.2.2).bind fun t536 => ((laws_contains.f k t536 t535).bind fun t539 => (laws_FnGames.j0 k l0 (!t539)))) else (laws_FnGames.j0 k l0 false))))))) = some r := H
  have A5 := Aside0.mk A50
  clear A50
  replace H := Option.bind_eq_some_iff.mp H
  obtain ⟨t522, A60, H⟩ := H
  replace H : ((laws_contains.f k t522 t519).bind fun t525 => (if (t521 != t525) = true then (some false) else ((spec_DrawBestAnswer.f k l0).bind fun bt526 => ((impl_BestAnswer.f k bt526.1 bt526.2.1 bt526.2.2.1 bt526.2.2.2).bind fun t535 => (if t535 ≥ 0 then ((impl_AnswersTo.f k bt526.1 bt526.2.1 bt526.2.2.1 bt526.2.2.2).bind fun t536 => ((laws_contains.f k t536 t535).bind fun t539 => (laws_FnGames.j0 k l0 (!t539)))) else (laws_FnGames.j0 k l0 false)))))) = some r := H
  have A6 := Aside0.mk A60
  clear A60
  replace H := Option.bind_eq_some_iff.mp H
  obtain ⟨t525, A70, H⟩ := H
  replace H : (if (t521 != t525) = true then (some false) else ((spec_DrawBestAnswer.f k l0).bind fun bt526 => ((impl_BestAnswer.f k bt526.1 bt526.2.1 bt526.2.2.1 bt526.2.2.2).bind fun t535 => (if t535 ≥ 0 then ((impl_AnswersTo.f k bt526.1 bt526.2.1 bt526.2.2.1 bt526.2.2.2).bind fun t536 => ((laws_contains.f k t536 t535).bind fun t539 => (laws_FnGames.j0 k l0 (!t539)))) else (laws_FnGames.j0 k l0 false))))) = some r := H
  have A7 := Aside0.mk A70
  clear A70
  by_cases c8 : (t521 != t525) = true
  ·rw [if_pos c8] at H
   have c8b0 : (t521 != t525) = true := c8
   (try (have c8b1 : decide (t521 = t525) = false := by simpa using c8))
   (try (have c8b2 : (t521 == t525) = false := by simpa using c8))
   (try (have c8b3 : ¬ (t521 = t525) := by simpa using c8))
   clear c8
   obtain rfl := Option.some.inj H
   go_enter Try.func6, Try.ntmps6
   try go_wp2_with (first | ((with_reducible refine Zj (f := 18) rfl ?_); refine ZE (some 13) rfl rfl Try.func18 (by kernel_rfl) rfl #[.slice A0 l0.length c0] rfl ar_ ?_; (with_reducible refine (laws_big.calls _ _ l0 false _ ?side1 ?side2 A2.out).mono ?_); (case side1 => repeat (first | exact HR0.out | (with_reducible refine ZB ?_ _) | (with_reducible refine ZA ?_ _) | (with_reducible refine ZG ?_))); (case side2 => exact HC0.out); rintro e w' ⟨rfl, ⟨nd, rfl⟩⟩; refine ⟨_, rfl, ?_⟩) | ((with_reducible refine Zj (f := 33) rfl ?_); refine ZE (some 16) rfl rfl Try.func33 (by kernel_rfl) rfl #[.slice A0 l0.length c0] rfl ar_ ?_; (with_reducible refine (spec_DrawCanWin.calls k _ _ l0 t515 t516 t519 _ ?side1 ?side2 A4.out).mono ?_); (case side1 => repeat (first | exact HR0.out | (with_reducible refine ZB ?_ _) | (with_reducible refine ZA ?_ _) | (with_reducible refine ZG ?_))); (case side2 => exact HC0.out); rintro e w9 ⟨v517, rfl, ho0, hb⟩; refine ⟨_, rfl, ?_⟩; have HO518 := Aside0.mk (Kd.S_lower ho0 (Zl hB_)); replace HB := Aside0.mk (Ze hB_ hb); (try clear hb); (try clear hb2); (try clear hk); (try clear hi); (try clear ho0)) | ((with_reducible refine ZD (N := 3) rfl ?_); (try (refine gate_guard (by rfl) ?_; dsimp only)); refine ZH ?hg (N := 3) ?hd (cs := #[.int .i64 0, .slice none 0 0]) (t := 27) ?hr ?_; (case hd => rfl); (case hg => rfl); (case hr => first | (go_simp; done) | (go_simp; rfl)); intro gb520 hg w10 hbox hb; replace HO518 := Aside0.mk (Zk (rS_ HO518.out) hb); have BK520 := Aside0.mk (hbox); have GW520 := Aside0.mk ((hz_ hg : w.heap.size ≤ gb520)); have GE520 := Aside0.mk ((hz_ hg : w.heap.size ≤ gb520)); replace HB := Aside0.mk (Ze hB_ hb); clear hb hbox hg; have hcz11_0 : w10.cell? ⟨gb520, 0, none⟩ = some (.int .i64 0) := (Za BK520.out 0).trans rfl; have hcz11_1 : w10.cell? ⟨gb520, 1, none⟩ = some (.slice none 0 0) := (Za BK520.out 1).trans rfl; have hfz11_0 := Zb BK520.out 0; have hfz11_1 := Zb BK520.out 1; obtain ⟨Ao12, co12, eo12⟩ := Kd.S_slice HO518.out; subst eo12))
   have n0_ : Aside0 (Kd.S (Kd.slice 3 (Kd.int .i64)) 31 ((w10.setCell ⟨gb520, 0, none⟩ (.int .i64 t515)).setCell ⟨gb520, 1, none⟩ (.slice Ao12 t516.length co12)) w.heap.size (fun _ => True) (.slice Ao12 t516.length co12) t516) := ⟨by (with_reducible repeat (first | apply Zy | apply Zx | apply Zr)); exact Zs (Zw (p := ⟨gb520, 1, none⟩) (Zw (p := ⟨gb520, 0, none⟩) (ZC HO518.out BK520.out (by decide)) (fun _ hk => hk.2) (.int .i64 t515)) (fun _ hk => hk.2) (.slice Ao12 t516.length co12)) (fun _ hk => trivial)⟩
   have n1_ : Aside0 (((w10.setCell ⟨gb520, 0, none⟩ (.int .i64 t515)).setCell ⟨gb520, 1, none⟩ (.slice Ao12 t516.length co12)).heap[gb520]? = some (.cells #[.int .i64 t515, .slice Ao12 t516.length co12] 27 (0, 0))) := ⟨by (with_reducible repeat (first | refine Zg ?_ _ | refine Zd ?_ | refine Zf ?_ _)); refine ZT (cs := #[.int .i64 t515, .slice none 0 0]) ?_ 1 _ rfl; (with_reducible repeat (first | refine Zg ?_ _ | refine Zd ?_ | refine Zf ?_ _)); refine ZT (cs := #[.int .i64 0, .slice none 0 0]) ?_ 0 _ rfl; (with_reducible repeat (first | refine Zg ?_ _ | refine Zd ?_ | refine Zf ?_ _)); exact BK520.out⟩
   have n2_ : Aside0 (Below w.heap.size w ((w10.setCell ⟨gb520, 0, none⟩ (.int .i64 t515)).setCell ⟨gb520, 1, none⟩ (.slice Ao12 t516.length co12))) := ⟨hB_⟩
   (try clear HO518)
   (try clear BK520)
   (try clear HB)
   generalize ((w10.setCell ⟨gb520, 0, none⟩ (.int .i64 t515)).setCell ⟨gb520, 1, none⟩ (.slice Ao12 t516.length co12)) = w13 at n0_ n1_ n2_ ⊢
   have HO518 := n0_
   have BK520 := n1_
   have HB := n2_
   clear n0_ n1_ n2_
   replace HO518 := Aside0.mk (Zr HO518.out)
   replace BK520 := Aside0.mk (Zd BK520.out)
   replace HB := Aside0.mk (Zi HB.out)
   refine start_ (n := 8) (S := fun w' => w'.cell? ⟨gb520, 0, none⟩ = some (.int .i64 t515) ∧ w'.cell? ⟨gb520, 1, none⟩ = some (.slice Ao12 t516.length co12)) (ds := []) #[O,O,O,O,O,O,O,O] (by kernel_rfl) rfl rfl ⟨(Za BK520.out 0).trans rfl, (Za BK520.out 1).trans rfl⟩ (fun hHeld => ?_); refine with_tabW laws_FnGames.tab4 laws_FnGames.bits4 (fun HT_ HW_ => ?_)
   generalize w13.drew = w14 at HO518 BK520 HB hHeld ⊢
   refine pu_ 1 20 #[O,Y,O,O,O,O,O,O] ?_
   refine pu_ 5 24 #[O,Y,O,O,O,Y,O,O] ?_
   refine tk2_ 0 19 #[Y,Y,O,O,O,Y,O,O] hHeld ?_
   refine tk2_ 3 22 #[Y,Y,O,Y,O,Y,O,O] hHeld ?_
   refine on_ 2 21 #[Y,Y,Y,Y,O,Y,O,O] (fun K hK => ?_)
   refine goes_ Try.func12 (by kernel_rfl) rfl #[.agg #[.int .i64 t515, .slice Ao12 t516.length co12], .int .i64 t519] (by rfl) rfl rfl ar_ ?_
   with_reducible refine (impl_CanWin.calls k t515 _ _ t516 t519 t521 _ ?side1 ?side2 A5.out).mono ?_
   (case side1 => repeat (first | exact (Zu HO518.out).2.2 | (with_reducible refine ZB ?_ _) | (with_reducible refine ZA ?_ _) | (with_reducible refine ZG ?_)))
   (case side2 => exact (Zu HO518.out).2.1)
   rintro e w15 ⟨rfl, hb⟩
   refine ⟨_, rfl, ?_⟩
   replace HO518 := Aside0.mk (Zk (rS_ HO518.out) hb)
   replace BK520 := Aside0.mk (Zc (g := gb520) (o := .cells #[.int .i64 t515, .slice Ao12 t516.length co12] 27 (0, 0)) (bk_ BK520.out) hb)
   replace HB := Aside0.mk (Ze hB_ hb)
   (try clear hb)
   (try clear hb2)
   (try clear hk)
   (try clear hi)
   refine hK.out _ _ ⟨(Za BK520.out 0).trans rfl, (Za BK520.out 1).trans rfl⟩ (fun hHeld => ?_)
   clear hK K
   refine no_ 21 ?_
   refine on_ 4 23 #[Y,Y,Y,Y,Y,Y,O,O] (fun K hK => ?_)
   refine goes_ Try.func27 (by kernel_rfl) rfl #[.agg #[.int .i64 t515, .slice Ao12 t516.length co12]] (by rfl) rfl rfl ar_ ?_
   with_reducible refine (impl_Grounded.calls k t515 _ _ t516 t522 _ ?side1 ?side2 A6.out).mono ?_
   (case side1 => repeat (first | exact (Zu HO518.out).2.2 | (with_reducible refine ZB ?_ _) | (with_reducible refine ZA ?_ _) | (with_reducible refine ZG ?_)))
   (case side2 => exact (Zu HO518.out).2.1)
   rintro e w16 ⟨v523, rfl, ho0, hb⟩
   refine ⟨_, rfl, ?_⟩
   have HO524 := Aside0.mk (Kd.V_lower (Kd.V_mono (ok' := fun k_ => some k_ ≠ (.slice Ao12 t516.length co12 : Value).ownBlock ∧ k_ ≠ gb520) ho0 (fun k_ hk_ => ⟨(Kd.fresh' (Kd.S_lt (rS_ HO518.out)) k_ hk_), (Kd.freshB (g := gb520) (o := .cells #[.int .i64 t515, .slice Ao12 t516.length co12] 27 (0, 0)) (bk_ BK520.out) k_ hk_)⟩)) (Zl hB_))
   replace HO518 := Aside0.mk (Zk (rS_ HO518.out) hb)
   replace BK520 := Aside0.mk (Zc (g := gb520) (o := .cells #[.int .i64 t515, .slice Ao12 t516.length co12] 27 (0, 0)) (bk_ BK520.out) hb)
   replace HB := Aside0.mk (Ze hB_ hb)
   (try clear hb)
   (try clear hb2)
   (try clear hk)
   (try clear hi)
   (try clear ho0)
   obtain ⟨Ao17, co17, eo17⟩ := Kd.V_slice HO524.out
   (first | subst eo17 | (injection eo17 with f1_ f2_ f3_; have f4_ := f1_.symm; have f5_ := f3_.symm; clear f1_ f2_ f3_; subst f4_; subst f5_))
   refine hK.out _ _ ⟨(Za BK520.out 0).trans rfl, (Za BK520.out 1).trans rfl⟩ (fun hHeld => ?_)
   clear hK K
   refine no_ 23 ?_
   refine on_ 6 25 #[Y,Y,Y,Y,Y,Y,Y,O] (fun K hK => ?_)
   refine goes_ Try.func30 (by kernel_rfl) rfl #[.slice Ao17 t522.length co17, .int .i64 t519] (by rfl) rfl rfl ar_ ?_
   with_reducible refine (laws_contains.calls k _ _ t522 t519 t525 _ ?side1 ?side2 A7.out).mono ?_
   (case side1 => repeat (first | exact (Kd.V_reads' HO524.out).2.2 | (with_reducible refine ZB ?_ _) | (with_reducible refine ZA ?_ _) | (with_reducible refine ZG ?_)))
   (case side2 => exact (Kd.V_reads' HO524.out).2.1)
   rintro e w' ⟨rfl, ⟨nd, rfl⟩⟩
   refine ⟨_, rfl, ?_⟩
   refine hK.out _ _ ⟨(Za BK520.out 0).trans rfl, (Za BK520.out 1).trans rfl⟩ (fun hHeld => ?_)
   clear hK K
   refine no_ 25 ?_
   refine pu_ 7 26 #[Y,Y,Y,Y,Y,Y,Y,Y] ?_
   refine done_ (done_of HT_.out (by kernel_rfl)) ?_
   try go_wp2
   all_goals go_ret
   all_goals exact ⟨er_, hB_⟩
  ·rw [if_neg c8] at H
   have c8b0 : (t521 != t525) = false := by simpa using c8
   (try (have c8b1 : decide (t521 = t525) = true := by simpa using c8))
   (try (have c8b2 : (t521 == t525) = true := by simpa using c8))
   clear c8
   replace H := Option.bind_eq_some_iff.mp H
   obtain ⟨⟨t526, t527, t530, t533⟩, A180, H⟩ := H
   replace H : ((impl_BestAnswer.f k t526 t527 t530 t533).bind fun t535 => (if t535 ≥ 0 then ((impl_AnswersTo.f k t526 t527 t530 t533).bind fun t536 => ((laws_contains.f k t536 t535).bind fun t539 => (laws_FnGames.j0 k l0 (!t539)))) else (laws_FnGames.j0 k l0 false))) = some r := H
   have A18 := Aside0.mk A180
   clear A180
   replace H := Option.bind_eq_some_iff.mp H
   obtain ⟨t535, A190, H⟩ := H
   replace H : (if t535 ≥ 0 then ((impl_AnswersTo.f k t526 t527 t530 t533).bind fun t536 => ((laws_contains.f k t536 t535).bind fun t539 => (laws_FnGames.j0 k l0 (!t539)))) else (laws_FnGames.j0 k l0 false)) = some r := H
   have A19 := Aside0.mk A190
   clear A190
   have HC20 := Aside0.mk H
   clear H
   go_enter Try.func6, Try.ntmps6
   try go_wp2_with (first | ((with_reducible refine Zj (f := 18) rfl ?_); refine ZE (some 13) rfl rfl Try.func18 (by kernel_rfl) rfl #[.slice A0 l0.length c0] rfl ar_ ?_; (with_reducible refine (laws_big.calls _ _ l0 false _ ?side1 ?side2 A2.out).mono ?_); (case side1 => repeat (first | exact HR0.out | (with_reducible refine ZB ?_ _) | (with_reducible refine ZA ?_ _) | (with_reducible refine ZG ?_))); (case side2 => exact HC0.out); rintro e w' ⟨rfl, ⟨nd, rfl⟩⟩; refine ⟨_, rfl, ?_⟩) | ((with_reducible refine Zj (f := 33) rfl ?_); refine ZE (some 16) rfl rfl Try.func33 (by kernel_rfl) rfl #[.slice A0 l0.length c0] rfl ar_ ?_; (with_reducible refine (spec_DrawCanWin.calls k _ _ l0 t515 t516 t519 _ ?side1 ?side2 A4.out).mono ?_); (case side1 => repeat (first | exact HR0.out | (with_reducible refine ZB ?_ _) | (with_reducible refine ZA ?_ _) | (with_reducible refine ZG ?_))); (case side2 => exact HC0.out); rintro e w21 ⟨v517, rfl, ho0, hb⟩; refine ⟨_, rfl, ?_⟩; have HO518 := Aside0.mk (Kd.S_lower ho0 (Zl hB_)); replace HB := Aside0.mk (Ze hB_ hb); (try clear hb); (try clear hb2); (try clear hk); (try clear hi); (try clear ho0)) | ((with_reducible refine ZD (N := 3) rfl ?_); (try (refine gate_guard (by rfl) ?_; dsimp only)); refine ZH ?hg (N := 3) ?hd (cs := #[.int .i64 0, .slice none 0 0]) (t := 27) ?hr ?_; (case hd => rfl); (case hg => rfl); (case hr => first | (go_simp; done) | (go_simp; rfl)); intro gb520 hg w22 hbox hb; replace HO518 := Aside0.mk (Zk (rS_ HO518.out) hb); have BK520 := Aside0.mk (hbox); have GW520 := Aside0.mk ((hz_ hg : w.heap.size ≤ gb520)); have GE520 := Aside0.mk ((hz_ hg : w.heap.size ≤ gb520)); replace HB := Aside0.mk (Ze hB_ hb); clear hb hbox hg; have hcz23_0 : w22.cell? ⟨gb520, 0, none⟩ = some (.int .i64 0) := (Za BK520.out 0).trans rfl; have hcz23_1 : w22.cell? ⟨gb520, 1, none⟩ = some (.slice none 0 0) := (Za BK520.out 1).trans rfl; have hfz23_0 := Zb BK520.out 0; have hfz23_1 := Zb BK520.out 1; obtain ⟨Ao24, co24, eo24⟩ := Kd.S_slice HO518.out; subst eo24))
   have n0_ : Aside0 (Kd.S (Kd.slice 3 (Kd.int .i64)) 31 ((w22.setCell ⟨gb520, 0, none⟩ (.int .i64 t515)).setCell ⟨gb520, 1, none⟩ (.slice Ao24 t516.length co24)) w.heap.size (fun _ => True) (.slice Ao24 t516.length co24) t516) := ⟨by (with_reducible repeat (first | apply Zy | apply Zx | apply Zr)); exact Zs (Zw (p := ⟨gb520, 1, none⟩) (Zw (p := ⟨gb520, 0, none⟩) (ZC HO518.out BK520.out (by decide)) (fun _ hk => hk.2) (.int .i64 t515)) (fun _ hk => hk.2) (.slice Ao24 t516.length co24)) (fun _ hk => trivial)⟩
   have n1_ : Aside0 (((w22.setCell ⟨gb520, 0, none⟩ (.int .i64 t515)).setCell ⟨gb520, 1, none⟩ (.slice Ao24 t516.length co24)).heap[gb520]? = some (.cells #[.int .i64 t515, .slice Ao24 t516.length co24] 27 (0, 0))) := ⟨by (with_reducible repeat (first | refine Zg ?_ _ | refine Zd ?_ | refine Zf ?_ _)); refine ZT (cs := #[.int .i64 t515, .slice none 0 0]) ?_ 1 _ rfl; (with_reducible repeat (first | refine Zg ?_ _ | refine Zd ?_ | refine Zf ?_ _)); refine ZT (cs := #[.int .i64 0, .slice none 0 0]) ?_ 0 _ rfl; (with_reducible repeat (first | refine Zg ?_ _ | refine Zd ?_ | refine Zf ?_ _)); exact BK520.out⟩
   have n2_ : Aside0 (Below w.heap.size w ((w22.setCell ⟨gb520, 0, none⟩ (.int .i64 t515)).setCell ⟨gb520, 1, none⟩ (.slice Ao24 t516.length co24))) := ⟨hB_⟩
   (try clear HO518)
   (try clear BK520)
   (try clear HB)
   generalize ((w22.setCell ⟨gb520, 0, none⟩ (.int .i64 t515)).setCell ⟨gb520, 1, none⟩ (.slice Ao24 t516.length co24)) = w25 at n0_ n1_ n2_ ⊢
   have HO518 := n0_
   have BK520 := n1_
   have HB := n2_
   clear n0_ n1_ n2_
   replace HO518 := Aside0.mk (Zr HO518.out)
   replace BK520 := Aside0.mk (Zd BK520.out)
   replace HB := Aside0.mk (Zi HB.out)
   refine start_ (n := 8) (S := fun w' => w'.cell? ⟨gb520, 0, none⟩ = some (.int .i64 t515) ∧ w'.cell? ⟨gb520, 1, none⟩ = some (.slice Ao24 t516.length co24)) (ds := []) #[O,O,O,O,O,O,O,O] (by kernel_rfl) rfl rfl ⟨(Za BK520.out 0).trans rfl, (Za BK520.out 1).trans rfl⟩ (fun hHeld => ?_); refine with_tabW laws_FnGames.tab4 laws_FnGames.bits4 (fun HT_ HW_ => ?_)
   generalize w25.drew = w26 at HO518 BK520 HB hHeld ⊢
   refine pu_ 1 20 #[O,Y,O,O,O,O,O,O] ?_
   refine pu_ 5 24 #[O,Y,O,O,O,Y,O,O] ?_
   refine tk2_ 0 19 #[Y,Y,O,O,O,Y,O,O] hHeld ?_
   refine tk2_ 3 22 #[Y,Y,O,Y,O,Y,O,O] hHeld ?_
   refine on_ 2 21 #[Y,Y,Y,Y,O,Y,O,O] (fun K hK => ?_)
   refine goes_ Try.func12 (by kernel_rfl) rfl #[.agg #[.int .i64 t515, .slice Ao24 t516.length co24], .int .i64 t519] (by rfl) rfl rfl ar_ ?_
   with_reducible refine (impl_CanWin.calls k t515 _ _ t516 t519 t521 _ ?side1 ?side2 A5.out).mono ?_
   (case side1 => repeat (first | exact (Zu HO518.out).2.2 | (with_reducible refine ZB ?_ _) | (with_reducible refine ZA ?_ _) | (with_reducible refine ZG ?_)))
   (case side2 => exact (Zu HO518.out).2.1)
   rintro e w27 ⟨rfl, hb⟩
   refine ⟨_, rfl, ?_⟩
   replace HO518 := Aside0.mk (Zk (rS_ HO518.out) hb)
   replace BK520 := Aside0.mk (Zc (g := gb520) (o := .cells #[.int .i64 t515, .slice Ao24 t516.length co24] 27 (0, 0)) (bk_ BK520.out) hb)
   replace HB := Aside0.mk (Ze hB_ hb)
   (try clear hb)
   (try clear hb2)
   (try clear hk)
   (try clear hi)
   refine hK.out _ _ ⟨(Za BK520.out 0).trans rfl, (Za BK520.out 1).trans rfl⟩ (fun hHeld => ?_)
   clear hK K
   refine no_ 21 ?_
   refine on_ 4 23 #[Y,Y,Y,Y,Y,Y,O,O] (fun K hK => ?_)
   refine goes_ Try.func27 (by kernel_rfl) rfl #[.agg #[.int .i64 t515, .slice Ao24 t516.length co24]] (by rfl) rfl rfl ar_ ?_
   with_reducible refine (impl_Grounded.calls k t515 _ _ t516 t522 _ ?side1 ?side2 A6.out).mono ?_
   (case side1 => repeat (first | exact (Zu HO518.out).2.2 | (with_reducible refine ZB ?_ _) | (with_reducible refine ZA ?_ _) | (with_reducible refine ZG ?_)))
   (case side2 => exact (Zu HO518.out).2.1)
   rintro e w28 ⟨v523, rfl, ho0, hb⟩
   refine ⟨_, rfl, ?_⟩
   have HO524 := Aside0.mk (Kd.V_lower (Kd.V_mono (ok' := fun k_ => some k_ ≠ (.slice Ao24 t516.length co24 : Value).ownBlock ∧ k_ ≠ gb520) ho0 (fun k_ hk_ => ⟨(Kd.fresh' (Kd.S_lt (rS_ HO518.out)) k_ hk_), (Kd.freshB (g := gb520) (o := .cells #[.int .i64 t515, .slice Ao24 t516.length co24] 27 (0, 0)) (bk_ BK520.out) k_ hk_)⟩)) (Zl hB_))
   replace HO518 := Aside0.mk (Zk (rS_ HO518.out) hb)
   replace BK520 := Aside0.mk (Zc (g := gb520) (o := .cells #[.int .i64 t515, .slice Ao24 t516.length co24] 27 (0, 0)) (bk_ BK520.out) hb)
   replace HB := Aside0.mk (Ze hB_ hb)
   (try clear hb)
   (try clear hb2)
   (try clear hk)
   (try clear hi)
   (try clear ho0)
   obtain ⟨Ao29, co29, eo29⟩ := Kd.V_slice HO524.out
   (first | subst eo29 | (injection eo29 with f1_ f2_ f3_; have f4_ := f1_.symm; have f5_ := f3_.symm; clear f1_ f2_ f3_; subst f4_; subst f5_))
   refine hK.out _ _ ⟨(Za BK520.out 0).trans rfl, (Za BK520.out 1).trans rfl⟩ (fun hHeld => ?_)
   clear hK K
   refine no_ 23 ?_
   refine on_ 6 25 #[Y,Y,Y,Y,Y,Y,Y,O] (fun K hK => ?_)
   refine goes_ Try.func30 (by kernel_rfl) rfl #[.slice Ao29 t522.length co29, .int .i64 t519] (by rfl) rfl rfl ar_ ?_
   with_reducible refine (laws_contains.calls k _ _ t522 t519 t525 _ ?side1 ?side2 A7.out).mono ?_
   (case side1 => repeat (first | exact (Kd.V_reads' HO524.out).2.2 | (with_reducible refine ZB ?_ _) | (with_reducible refine ZA ?_ _) | (with_reducible refine ZG ?_)))
   (case side2 => exact (Kd.V_reads' HO524.out).2.1)
   rintro e w' ⟨rfl, ⟨nd, rfl⟩⟩
   refine ⟨_, rfl, ?_⟩
   refine hK.out _ _ ⟨(Za BK520.out 0).trans rfl, (Za BK520.out 1).trans rfl⟩ (fun hHeld => ?_)
   clear hK K
   refine no_ 25 ?_
   refine pu_ 7 26 #[Y,Y,Y,Y,Y,Y,Y,Y] ?_
   refine done_ (done_of HT_.out (by kernel_rfl)) ?_
   go_upto_region 8 with (first | ((with_reducible refine Zj (f := 34) rfl ?_); refine ZE (some 29) rfl rfl Try.func34 (by kernel_rfl) rfl #[.slice A0 l0.length c0] rfl ar_ ?_; (with_reducible refine (spec_DrawBestAnswer.calls k _ _ l0 t526 t527 t530 t533 _ ?side1 ?side2 A18.out).mono ?_); (case side1 => repeat (first | exact (Kd.C_below HR0.out hB_) | (with_reducible refine ZB ?_ _) | (with_reducible refine ZA ?_ _) | (with_reducible refine ZG ?_))); (case side2 => exact HC0.out); rintro e w30 ⟨v528, v531, rfl, ho0, ho1, hb⟩; refine ⟨_, rfl, ?_⟩; replace HO524 := Aside0.mk (Kd.V_mono (Kd.V_told (Kd.V_told (Kd.V_old (rV_ HO524.out) hb) (Kd.S_base ho0)) (ZS ho1)) (fun _ h_ => h_.1)); have HO529 := Aside0.mk (Kd.S_lower (Kd.S_new' ho0 (Kd.S_lt (rS_ HO518.out))) (Zl hB_)); replace HO518 := Aside0.mk (Zs (Kd.S_told (Kd.S_told (Kd.S_old (rS_ HO518.out) hb) (Kd.S_base ho0)) (ZS ho1)) (fun _ h_ => h_.1)); have HO532 := Aside0.mk (ZI ho1 (Zl hB_)); replace BK520 := Aside0.mk (Zc (g := gb520) (o := .cells #[.int .i64 t515, .slice Ao24 t516.length co24] 27 (0, 0)) (bk_ BK520.out) hb); replace HB := Aside0.mk (Ze hB_ hb); (try clear hb); (try clear hb2); (try clear hk); (try clear hi); (try clear ho0); (try clear ho1)) | ((with_reducible refine ZD (N := 5) rfl ?_); (try (refine gate_guard (by rfl) ?_; dsimp only)); refine ZH ?hg (N := 5) ?hd (cs := #[.int .i64 0, .slice none 0 0]) (t := 27) ?hr ?_; (case hd => rfl); (case hg => rfl); (case hr => first | (go_simp; done) | (go_simp; rfl)); intro gb534 hg w31 hbox hb; replace HO518 := Aside0.mk (Zk (rS_ HO518.out) hb); replace HO524 := Aside0.mk (Kd.V_below (Kd.V_elderB (rV_ HO524.out) gb534 (Nat.le_of_eq hg.symm)) hb); replace HO529 := Aside0.mk (Zk (rS_ HO529.out) hb); replace HO532 := Aside0.mk (ZN (rR_ HO532.out) hb); have BK534 := Aside0.mk (hbox); have GW534 := Aside0.mk ((hz_ hg : w.heap.size ≤ gb534)); have GE534 := Aside0.mk ((hz_ hg : w.heap.size ≤ gb534)); replace HB := Aside0.mk (Ze hB_ hb); have NB520_534 := Aside0.mk ((by rw [hg]; exact Nat.ne_of_lt (blk_lt (g := gb520) (o := .cells #[.int .i64 t515, .slice Ao24 t516.length co24] 27 (0, 0)) (bk_ BK520.out)) : gb520 ≠ gb534)); have NB534_520 := Aside0.mk ((by rw [hg]; exact Nat.ne_of_gt (blk_lt (g := gb520) (o := .cells #[.int .i64 t515, .slice Ao24 t516.length co24] 27 (0, 0)) (bk_ BK520.out)) : gb534 ≠ gb520)); replace BK520 := Aside0.mk (Zc (g := gb520) (o := .cells #[.int .i64 t515, .slice Ao24 t516.length co24] 27 (0, 0)) (bk_ BK520.out) hb); clear hb hbox hg; have hnb32 := NB534_520.out; have hnc32 := NB520_534.out; have hcz33_0 : w31.cell? ⟨gb534, 0, none⟩ = some (.int .i64 0) := (Za BK534.out 0).trans rfl; have hcz33_1 : w31.cell? ⟨gb534, 1, none⟩ = some (.slice none 0 0) := (Za BK534.out 1).trans rfl; have hfz33_0 := Zb BK534.out 0; have hfz33_1 := Zb BK534.out 1; obtain ⟨Ao34, co34, eo34⟩ := Kd.S_slice HO529.out; subst eo34; obtain ⟨Ao35, co35, eo35⟩ := ZP HO532.out; subst eo35) | ((with_reducible refine Zj (f := 16) rfl ?_); refine ZE (some 36) rfl rfl Try.func16 (by kernel_rfl) rfl #[.agg #[.int .i64 t526, .slice Ao34 t527.length co34], .slice Ao35 t530.length co35, .int .i64 t533] rfl ar_ ?_; (with_reducible refine (impl_BestAnswer.calls k t526 _ _ t527 _ _ t530 t533 t535 _ ?side1 ?side2 ?side3 ?side4 A19.out).mono ?_); (case side1 => refine (Zu (e := 31) (base := w.heap.size) (ok := fun k_ => (some k_ ≠ (.slice Ao35 t530.length co35 : Value).ownBlock ∧ some k_ ≠ (.slice Ao24 t516.length co24 : Value).ownBlock)) (n := t527.length) (c := co34) ?_).2.2; exact (by (with_reducible repeat (first | apply Zy | apply Zx | apply Zr)); exact (Zs (Zw (p := ⟨gb534, 1, none⟩) (Zw (p := ⟨gb534, 0, none⟩) (ZC HO529.out BK534.out (by decide)) (fun _ hk => hk.2) (.int .i64 t526)) (fun _ hk => hk.2) (.slice Ao34 t527.length co34)) (fun _ h_ => h_.1)))); (case side2 => exact (Zu HO529.out).2.1); (case side3 => refine (Zp (e := 3) (base := w.heap.size) (ok := fun k_ => True) (n := t530.length) (c := co35) ?_).2.2; exact (by (with_reducible repeat (first | apply Kd.R_alloc | apply Kd.R_drewN | apply ZR)); exact (Zz (Kd.R_far (p := ⟨gb534, 1, none⟩) (Kd.R_far (p := ⟨gb534, 0, none⟩) (Kd.R_types HO532.out BK534.out (by decide)) (fun _ hk => hk.2) (.int .i64 t526)) (fun _ hk => hk.2) (.slice Ao34 t527.length co34)) (fun _ h_ => h_.1)))); (case side4 => exact (Zp HO532.out).2.1); rintro e w36 ⟨rfl, hb⟩; refine ⟨_, rfl, ?_⟩; replace HO518 := Aside0.mk (Zk (by (with_reducible repeat (first | apply Zy | apply Zx | apply Zr)); exact (Zs (Zw (p := ⟨gb534, 1, none⟩) (Zw (p := ⟨gb534, 0, none⟩) (ZC HO518.out BK534.out (by decide)) (fun _ hk => hk.2) (.int .i64 t526)) (fun _ hk => hk.2) (.slice Ao34 t527.length co34)) (fun _ h_ => h_.1))) hb); replace HO524 := Aside0.mk (Kd.V_below (by (with_reducible repeat (first | apply Kd.V_alloc | apply Kd.V_drewN | apply Kd.V_drew)); exact (Kd.V_mono (Kd.V_far (p := ⟨gb534, 1, none⟩) (Kd.V_far (p := ⟨gb534, 0, none⟩) (Kd.V_mono HO524.out (fun k_ hk => (⟨hk, hk.2⟩ : _ ∧ k_ ≠ gb534))) (fun _ hk => hk.2) (.int .i64 t526)) (fun _ hk => hk.2) (.slice Ao34 t527.length co34)) (fun _ h_ => h_.1))) hb); replace HO529 := Aside0.mk (Zk (by (with_reducible repeat (first | apply Zy | apply Zx | apply Zr)); exact (Zs (Zw (p := ⟨gb534, 1, none⟩) (Zw (p := ⟨gb534, 0, none⟩) (ZC HO529.out BK534.out (by decide)) (fun _ hk => hk.2) (.int .i64 t526)) (fun _ hk => hk.2) (.slice Ao34 t527.length co34)) (fun _ h_ => h_.1))) hb); replace HO532 := Aside0.mk (ZN (by (with_reducible repeat (first | apply Kd.R_alloc | apply Kd.R_drewN | apply ZR)); exact (Zz (Kd.R_far (p := ⟨gb534, 1, none⟩) (Kd.R_far (p := ⟨gb534, 0, none⟩) (Kd.R_types HO532.out BK534.out (by decide)) (fun _ hk => hk.2) (.int .i64 t526)) (fun _ hk => hk.2) (.slice Ao34 t527.length co34)) (fun _ h_ => h_.1))) hb); replace BK520 := Aside0.mk (Zc (g := gb520) (o := .cells #[.int .i64 t515, .slice Ao24 t516.length co24] 27 (0, 0)) (by (with_reducible repeat (first | refine Zg ?_ _ | refine Zd ?_ | refine Zf ?_ _)); refine ZK ?_ NB520_534.out _; (with_reducible repeat (first | refine Zg ?_ _ | refine Zd ?_ | refine Zf ?_ _)); refine ZK ?_ NB520_534.out _; (with_reducible repeat (first | refine Zg ?_ _ | refine Zd ?_ | refine Zf ?_ _)); exact BK520.out) hb); replace BK534 := Aside0.mk (Zc (g := gb534) (o := .cells #[.int .i64 t526, .slice Ao34 t527.length co34] 27 (0, 0)) (by (with_reducible repeat (first | refine Zg ?_ _ | refine Zd ?_ | refine Zf ?_ _)); refine ZT (cs := #[.int .i64 t526, .slice none 0 0]) ?_ 1 _ rfl; (with_reducible repeat (first | refine Zg ?_ _ | refine Zd ?_ | refine Zf ?_ _)); refine ZT (cs := #[.int .i64 0, .slice none 0 0]) ?_ 0 _ rfl; (with_reducible repeat (first | refine Zg ?_ _ | refine Zd ?_ | refine Zf ?_ _)); exact BK534.out) hb); replace HB := Aside0.mk (Ze hB_ hb); (try clear hb); (try clear hb2); (try clear hk); (try clear hi)))
   (try simp only [Act.put, List.setIfInBounds_toArray, List.set_cons_zero, List.set_cons_succ])
   go_cut [47] (fun v47 wc => ∃ (kq : Nat) (x47_19 : Bool), v47 = .bool x47_19 ∧ Aside0 (laws_FnGames.j0 kq l0 x47_19 = some r) ∧ Aside0 (kq ≤ k) ∧ Aside0 (Kd.S (Kd.slice 3 (Kd.int .i64)) 31 wc w.heap.size (fun k_ => some k_ ≠ ((.slice Ao34 t527.length co34) : Value).ownBlock) (.slice Ao24 t516.length co24) t516) ∧ Aside0 (Kd.S (Kd.slice 3 (Kd.int .i64)) 31 wc w.heap.size (fun k_ => some k_ ≠ ((.slice Ao24 t516.length co24) : Value).ownBlock) (.slice Ao34 t527.length co34) t527) ∧ Aside0 (wc.heap[gb520]? = some (.cells #[.int .i64 t515, (.slice Ao24 t516.length co24)] 27 (0, 0))) ∧ Aside0 (wc.heap[gb534]? = some (.cells #[.int .i64 t526, (.slice Ao34 t527.length co34)] 27 (0, 0))) ∧ Aside0 (Below w.heap.size w wc))
   case first =>
    have H := HC20.out
    clear HC20
    by_cases c37 : t535 ≥ 0
    ·rw [if_pos c37] at H
     have c37b0 : decide (0 ≤ t535) = true := decide_eq_true c37
     clear c37
     (first | rw [c37b0] | (simp only [i64_w, i32_w]; rw [c37b0]) | skip)
     replace H := Option.bind_eq_some_iff.mp H
     obtain ⟨t536, A380, H⟩ := H
     replace H : ((laws_contains.f k t536 t535).bind fun t539 => (laws_FnGames.j0 k l0 (!t539))) = some r := H
     have A38 := Aside0.mk A380
     clear A380
     replace H := Option.bind_eq_some_iff.mp H
     obtain ⟨t539, A390, H⟩ := H
     replace H : (laws_FnGames.j0 k l0 (!t539)) = some r := H
     have A39 := Aside0.mk A390
     clear A390
     have H' := Aside0.mk H
     clear H
     have hnb40 := NB534_520.out
     have hnc40 := NB520_534.out
     have hcz41_0 : w36.cell? ⟨gb534, 0, none⟩ = some (.int .i64 t526) := (Za BK534.out 0).trans rfl
     have hcz41_1 : w36.cell? ⟨gb534, 1, none⟩ = some (.slice Ao34 t527.length co34) := (Za BK534.out 1).trans rfl
     have hfz41_0 := Zb BK534.out 0
     have hfz41_1 := Zb BK534.out 1
     go_wp2_with (first | (go_at_call 35; (with_reducible refine (impl_AnswersTo.calls k t526 _ _ t527 _ _ t530 t533 t536 _ ?side1 ?side2 ?side3 ?side4 A38.out).mono ?_); (case side1 => repeat (first | exact (Zu HO529.out).2.2 | (with_reducible refine ZB ?_ _) | (with_reducible refine ZA ?_ _) | (with_reducible refine ZG ?_))); (case side2 => exact (Zu HO529.out).2.1); (case side3 => repeat (first | exact (Zp HO532.out).2.2 | (with_reducible refine ZB ?_ _) | (with_reducible refine ZA ?_ _) | (with_reducible refine ZG ?_))); (case side4 => exact (Zp HO532.out).2.1); rintro e w42 ⟨v537, rfl, ho0, hb⟩; replace HO518 := Aside0.mk (Kd.S_elder' (rS_ HO518.out) (ZS ho0) hb); replace HO524 := Aside0.mk (Kd.V_elder' (rV_ HO524.out) (ZS ho0) hb); replace HO529 := Aside0.mk (Kd.S_elder' (rS_ HO529.out) (ZS ho0) hb); have HO538 := Aside0.mk (ZI (Kd.R_new' ho0 (Kd.R_lt (rR_ HO532.out))) (Zl hB_)); replace HO532 := Aside0.mk (Kd.R_elder' (rR_ HO532.out) (ZS ho0) hb); replace BK520 := Aside0.mk (Zc (g := gb520) (o := .cells #[.int .i64 t515, .slice Ao24 t516.length co24] 27 (0, 0)) (bk_ BK520.out) hb); replace BK534 := Aside0.mk (Zc (g := gb534) (o := .cells #[.int .i64 t526, .slice Ao34 t527.length co34] 27 (0, 0)) (bk_ BK534.out) hb); replace HB := Aside0.mk (Ze hB_ hb); (try clear hb); (try clear hb2); (try clear hk); (try clear hi); (try clear ho0); obtain ⟨Ao43, co43, eo43⟩ := ZP HO538.out; subst eo43) | (go_at_call 30; (with_reducible refine (laws_contains.calls k _ _ t536 t535 t539 _ ?side1 ?side2 A39.out).mono ?_); (case side1 => repeat (first | exact (Zp HO538.out).2.2 | (with_reducible refine ZB ?_ _) | (with_reducible refine ZA ?_ _) | (with_reducible refine ZG ?_))); (case side2 => exact (Zp HO538.out).2.1); rintro e w' ⟨rfl, ⟨nd, rfl⟩⟩))
     go_meet
     case rel => exact ⟨_, (!t539), sm_, H', ⟨by first | omega | exact Nat.le_refl _⟩, ⟨by (with_reducible repeat (first | apply Zy | apply Zx | apply Zr)); exact Zs HO518.out (fun _ hk => hk.1.1.2)⟩, ⟨by (with_reducible repeat (first | apply Zy | apply Zx | apply Zr)); exact Zs HO529.out (fun _ hk => hk.1.2)⟩, ⟨bk_ BK520.out⟩, ⟨bk_ BK534.out⟩, ⟨hB_⟩⟩
    ·rw [if_neg c37] at H
     have c37b0 : decide (0 ≤ t535) = false := decide_eq_false c37
     clear c37
     (first | rw [c37b0] | (simp only [i64_w, i32_w]; rw [c37b0]) | skip)
     have H' := Aside0.mk H
     clear H
     go_wp2
     go_meet
     case rel => exact ⟨_, (false), sm_, H', ⟨by first | omega | exact Nat.le_refl _⟩, ⟨by (with_reducible repeat (first | apply Zy | apply Zx | apply Zr)); exact Zs HO518.out (fun _ hk => hk.1.2)⟩, ⟨by (with_reducible repeat (first | apply Zy | apply Zx | apply Zr)); exact Zs HO529.out (fun _ hk => hk.2)⟩, ⟨bk_ BK520.out⟩, ⟨bk_ BK534.out⟩, ⟨hB_⟩⟩
   case rest =>
    clear HC20
    try clear c1
    try clear c2
    try clear p2
    try clear c3
    try clear c4
    try clear c6
    try clear c8
    try clear c8b0
    try clear c8b1
    try clear c8b2
    try clear c12
    try clear c16
    try clear c18
    try clear c27
    try clear c30
    try clear c32
    try clear c33
    try clear c34
    try clear c37
    try clear c37b0
    try clear c40
    try clear hcz11_0
    try clear hcz11_1
    try clear hcz23_0
    try clear hcz23_1
    try clear hcz33_0
    try clear hcz33_1
    try clear hcz41_0
    try clear hcz41_1
    try clear hfz11_0
    try clear hfz11_1
    try clear hfz23_0
    try clear hfz23_1
    try clear hfz33_0
    try clear hfz33_1
    try clear hfz41_0
    try clear hfz41_1
    obtain ⟨kq, x47_19, rfl, HA, HJ19, HO_521001, HO_535001, BK520, BK534, HB⟩ := hcut
    cases kq with
    | zero => exact absurd HA.out (by simp [laws_FnGames.j0])
    | succ kj19 =>
     have H := HA.out
     clear HA
     simp only [laws_FnGames.j0] at H
     by_cases c44 : x47_19 = true
     ·subst c44
      have H1 : (some false) = some r := by rw [if_pos rfl] at H; exact H
      clear H
      have H := H1
      clear H1
      obtain rfl := Option.some.inj H
      go_wp2
      all_goals go_ret
      all_goals exact ⟨er_, hB_⟩
     ·replace c44 := Bool.eq_false_iff.mpr c44
      subst c44
      have H1 : ((spec_DrawWinnerOf.f kj19 l0).bind fun bt540 => ((impl_WinnerOf.f kj19 bt540.1 bt540.2.1 bt540.2.2).bind fun t548 => ((impl_IsLine.f kj19 bt540.1 bt540.2.1 bt540.2.2).bind fun t549 => (if ((t548.toList != ([] : List UInt8)) != t549) = true then (some false) else ((impl_IsLine.f kj19 bt540.1 bt540.2.1 bt540.2.2).bind fun t550 => (if t550 = true then ((impl_LongestGame.f kj19 bt540.1 bt540.2.1).bind fun t551 => (if (bt540.2.2.length : Int) > t551 then (some false) else (if t548.toList = ([102, 105, 114, 115, 116] : List UInt8) then (if ((bt540.2.2.length : Int) % 2) = 1 then (if 0 ≤ (wrap64 ((bt540.2.2.length : Int) - 1)) then (if (wrap64 ((bt540.2.2.length : Int) - 1)) < (bt540.2.2.length : Int) then ((impl_AttackersOf.f kj19 bt540.1 bt540.2.1 (rd bt540.2.2 (wrap64 ((bt540.2.2.length : Int) - 1)))).bind fun t553 => (some ((t553.length : Int) == 0))) else (none)) else (none)) else (some false)) else (some true)))) else (if t548.toList = ([102, 105, 114, 115, 116] : List UInt8) then (if ((bt540.2.2.length : Int) % 2) = 1 then (if 0 ≤ (wrap64 ((bt540.2.2.length : Int) - 1)) then (if (wrap64 ((bt540.2.2.length : Int) - 1)) < (bt540.2.2.length : Int) then ((impl_AttackersOf.f kj19 bt540.1 bt540.2.1 (rd bt540.2.2 (wrap64 ((bt540.2.2.length : Int) - 1)))).bind fun t557 => (some ((t557.length : Int) == 0))) else (none)) else (none)) else (some false)) else (some true)))))))) = some r := by rw [if_neg (show ¬ (false = true) by decide)] at H; exact H
      clear H
      have H := H1
      clear H1
      replace H := Option.bind_eq_some_iff.mp H
      obtain ⟨⟨t540, t541, t544⟩, A450, H⟩ := H
      replace H : ((impl_WinnerOf.f kj19 t540 t541 t544).bind fun t548 => ((impl_IsLine.f kj19 t540 t541 t544).bind fun t549 => (if ((t548.toList != ([] : List UInt8)) != t549) = true then (some false) else ((impl_IsLine.f kj19 t540 t541 t544).bind fun t550 => (if t550 = true then ((impl_LongestGame.f kj19 t540 t541).bind fun t551 => (if (t544.length : Int) > t551 then (some false) else (if t548.toList = ([102, 105, 114, 115, 116] : List UInt8) then (if ((t544.length : Int) % 2) = 1 then (if 0 ≤ (wrap64 ((t544.length : Int) - 1)) then (if (wrap64 ((t544.length : Int) - 1)) < (t544.length : Int) then ((impl_AttackersOf.f kj19 t540 t541 (rd t544 (wrap64 ((t544.length : Int) - 1)))).bind fun t553 => (some ((t553.length : Int) == 0))) else (none)) else (none)) else (some false)) else (some true)))) else (if t548.toList = ([102, 105, 114, 115, 116] : List UInt8) then (if ((t544.length : Int) % 2) = 1 then (if 0 ≤ (wrap64 ((t544.length : Int) - 1)) then (if (wrap64 ((t544.length : Int) - 1)) < (t544.length : Int) then ((impl_AttackersOf.f kj19 t540 t541 (rd t544 (wrap64 ((t544.length : Int) - 1)))).bind fun t557 => (some ((t557.length : Int) == 0))) else (none)) else (none)) else (some false)) else (some true))))))) = some r := H
      have A45 := Aside0.mk A450
      clear A450
      replace H := Option.bind_eq_some_iff.mp H
      obtain ⟨t548, A460, H⟩ := H
      replace H : ((impl_IsLine.f kj19 t540 t541 t544).bind fun t549 => (if ((t548.toList != ([] : List UInt8)) != t549) = true then (some false) else ((impl_IsLine.f kj19 t540 t541 t544).bind fun t550 => (if t550 = true then ((impl_LongestGame.f kj19 t540 t541).bind fun t551 => (if (t544.length : Int) > t551 then (some false) else (if t548.toList = ([102, 105, 114, 115, 116] : List UInt8) then (if ((t544.length : Int) % 2) = 1 then (if 0 ≤ (wrap64 ((t544.length : Int) - 1)) then (if (wrap64 ((t544.length : Int) - 1)) < (t544.length : Int) then ((impl_AttackersOf.f kj19 t540 t541 (rd t544 (wrap64 ((t544.length : Int) - 1)))).bind fun t553 => (some ((t553.length : Int) == 0))) else (none)) else (none)) else (some false)) else (some true)))) else (if t548.toList = ([102, 105, 114, 115, 116] : List UInt8) then (if ((t544.length : Int) % 2) = 1 then (if 0 ≤ (wrap64 ((t544.length : Int) - 1)) then (if (wrap64 ((t544.length : Int) - 1)) < (t544.length : Int) then ((impl_AttackersOf.f kj19 t540 t541 (rd t544 (wrap64 ((t544.length : Int) - 1)))).bind fun t557 => (some ((t557.length : Int) == 0))) else (none)) else (none)) else (some false)) else (some true)))))) = some r := H
      have A46 := Aside0.mk A460
      clear A460
      replace H := Option.bind_eq_some_iff.mp H
      obtain ⟨t549, A470, H⟩ := H
      replace H : (if ((t548.toList != ([] : List UInt8)) != t549) = true then (some false) else ((impl_IsLine.f kj19 t540 t541 t544).bind fun t550 => (if t550 = true then ((impl_LongestGame.f kj19 t540 t541).bind fun t551 => (if (t544.length : Int) > t551 then (some false) else (if t548.toList = ([102, 105, 114, 115, 116] : List UInt8) then (if ((t544.length : Int) % 2) = 1 then (if 0 ≤ (wrap64 ((t544.length : Int) - 1)) then (if (wrap64 ((t544.length : Int) - 1)) < (t544.length : Int) then ((impl_AttackersOf.f kj19 t540 t541 (rd t544 (wrap64 ((t544.length : Int) - 1)))).bind fun t553 => (some ((t553.length : Int) == 0))) else (none)) else (none)) else (some false)) else (some true)))) else (if t548.toList = ([102, 105, 114, 115, 116] : List UInt8) then (if ((t544.length : Int) % 2) = 1 then (if 0 ≤ (wrap64 ((t544.length : Int) - 1)) then (if (wrap64 ((t544.length : Int) - 1)) < (t544.length : Int) then ((impl_AttackersOf.f kj19 t540 t541 (rd t544 (wrap64 ((t544.length : Int) - 1)))).bind fun t557 => (some ((t557.length : Int) == 0))) else (none)) else (none)) else (some false)) else (some true))))) = some r := H
      have A47 := Aside0.mk A470
      clear A470
      by_cases c48 : ((t548.toList != ([] : List UInt8)) != t549) = true
      ·rw [if_pos c48] at H
       have c48b0 : ((t548.toList != ([] : List UInt8)) != t549) = true := c48
       (try (have c48b4 : ¬ (t548.toList.isEmpty = !t549) := by revert c48; cases t548.toList <;> cases t549 <;> simp))
       (try (have c48b1 : decide ((t548.toList != ([] : List UInt8)) = t549) = false := by simpa using c48))
       (try (have c48b2 : ((t548.toList != ([] : List UInt8)) == t549) = false := by simpa using c48))
       (try (have c48b3 : ¬ ((t548.toList != ([] : List UInt8)) = t549) := by simpa using c48))
       clear c48
       obtain rfl := Option.some.inj H
       go_wp2_with (first | ((with_reducible refine Zj (f := 36) rfl ?_); refine ZE (some 50) rfl rfl Try.func36 (by kernel_rfl) rfl #[.slice A0 l0.length c0] rfl ar_ ?_; (with_reducible refine (spec_DrawWinnerOf.calls kj19 _ _ l0 t540 t541 t544 _ ?side1 ?side2 A45.out).mono ?_); (case side1 => exact cb_ HR0.out); (case side2 => exact HC0.out); rintro e w49 ⟨v542, v545, rfl, ho0, ho1, hb⟩; refine ⟨_, rfl, ?_⟩; have HO543 := Aside0.mk (Kd.S_lower (Kd.S_new' (Kd.S_new' ho0 (Kd.S_lt (rS_ HO_521001.out))) (Kd.S_lt (rS_ HO_535001.out))) (Zl hB_)); replace HO_521001 := Aside0.mk (Zs (Kd.S_told (Kd.S_told (Kd.S_old (rS_ HO_521001.out) hb) (Kd.S_base ho0)) (ZS ho1)) (fun _ h_ => h_.1)); replace HO_535001 := Aside0.mk (Zs (Kd.S_told (Kd.S_told (Kd.S_old (rS_ HO_535001.out) hb) (Kd.S_base ho0)) (ZS ho1)) (fun _ h_ => h_.1)); have HO546 := Aside0.mk (ZI ho1 (Zl hB_)); replace BK520 := Aside0.mk (Zc (g := gb520) (o := .cells #[.int .i64 t515, .slice Ao24 t516.length co24] 27 (0, 0)) (bk_ BK520.out) hb); replace BK534 := Aside0.mk (Zc (g := gb534) (o := .cells #[.int .i64 t526, .slice Ao34 t527.length co34] 27 (0, 0)) (bk_ BK534.out) hb); replace HB := Aside0.mk (Ze hB_ hb); (try clear hb); (try clear hb2); (try clear hk); (try clear hi); (try clear ho0); (try clear ho1)) | ((with_reducible refine ZD (N := 9) rfl ?_); (try (refine gate_guard (by rfl) ?_; dsimp only)); refine ZH ?hg (N := 9) ?hd (cs := #[.int .i64 0, .slice none 0 0]) (t := 27) ?hr ?_; (case hd => rfl); (case hg => rfl); (case hr => first | (go_simp; done) | (go_simp; rfl)); intro gb547 hg w50 hbox hb; replace HO_521001 := Aside0.mk (Zk (rS_ HO_521001.out) hb); replace HO_535001 := Aside0.mk (Zk (rS_ HO_535001.out) hb); replace HO543 := Aside0.mk (Zk (rS_ HO543.out) hb); replace HO546 := Aside0.mk (ZN (rR_ HO546.out) hb); have BK547 := Aside0.mk (hbox); have GW547 := Aside0.mk ((hz_ hg : w.heap.size ≤ gb547)); have GE547 := Aside0.mk ((hz_ hg : w.heap.size ≤ gb547)); replace HB := Aside0.mk (Ze hB_ hb); have NB520_547 := Aside0.mk ((by rw [hg]; exact Nat.ne_of_lt (blk_lt (g := gb520) (o := .cells #[.int .i64 t515, .slice Ao24 t516.length co24] 27 (0, 0)) (bk_ BK520.out)) : gb520 ≠ gb547)); have NB547_520 := Aside0.mk ((by rw [hg]; exact Nat.ne_of_gt (blk_lt (g := gb520) (o := .cells #[.int .i64 t515, .slice Ao24 t516.length co24] 27 (0, 0)) (bk_ BK520.out)) : gb547 ≠ gb520)); replace BK520 := Aside0.mk (Zc (g := gb520) (o := .cells #[.int .i64 t515, .slice Ao24 t516.length co24] 27 (0, 0)) (bk_ BK520.out) hb); have NB534_547 := Aside0.mk ((by rw [hg]; exact Nat.ne_of_lt (blk_lt (g := gb534) (o := .cells #[.int .i64 t526, .slice Ao34 t527.length co34] 27 (0, 0)) (bk_ BK534.out)) : gb534 ≠ gb547)); have NB547_534 := Aside0.mk ((by rw [hg]; exact Nat.ne_of_gt (blk_lt (g := gb534) (o := .cells #[.int .i64 t526, .slice Ao34 t527.length co34] 27 (0, 0)) (bk_ BK534.out)) : gb547 ≠ gb534)); replace BK534 := Aside0.mk (Zc (g := gb534) (o := .cells #[.int .i64 t526, .slice Ao34 t527.length co34] 27 (0, 0)) (bk_ BK534.out) hb); clear hb hbox hg; have hnb51 := NB547_520.out; have hnc51 := NB520_547.out; have hnb52 := NB547_534.out; have hnc52 := NB534_547.out; have hcz53_0 : w50.cell? ⟨gb547, 0, none⟩ = some (.int .i64 0) := (Za BK547.out 0).trans rfl; have hcz53_1 : w50.cell? ⟨gb547, 1, none⟩ = some (.slice none 0 0) := (Za BK547.out 1).trans rfl; have hfz53_0 := Zb BK547.out 0; have hfz53_1 := Zb BK547.out 1; obtain ⟨Ao54, co54, eo54⟩ := Kd.S_slice HO543.out; subst eo54; obtain ⟨Ao55, co55, eo55⟩ := ZP HO546.out; subst eo55) | ((with_reducible refine Zj (f := 37) rfl ?_); refine ZE (some 55) rfl rfl Try.func37 (by kernel_rfl) rfl #[.agg #[.int .i64 t540, .slice Ao54 t541.length co54], .slice Ao55 t544.length co55] rfl ar_ ?_; (with_reducible refine (impl_WinnerOf.calls kj19 t540 _ _ t541 _ _ t544 t548 _ ?side1 ?side2 ?side3 ?side4 A46.out).mono ?_); (case side1 => refine (Zu (e := 31) (base := w.heap.size) (ok := fun k_ => ((some k_ ≠ (.slice Ao55 t544.length co55 : Value).ownBlock ∧ some k_ ≠ (.slice Ao24 t516.length co24 : Value).ownBlock) ∧ some k_ ≠ (.slice Ao34 t527.length co34 : Value).ownBlock)) (n := t541.length) (c := co54) ?_).2.2; exact (by (with_reducible repeat (first | apply Zy | apply Zx | apply Zr)); exact (Zs (Zw (p := ⟨gb547, 1, none⟩) (Zw (p := ⟨gb547, 0, none⟩) (ZC HO543.out BK547.out (by decide)) (fun _ hk => hk.2) (.int .i64 t540)) (fun _ hk => hk.2) (.slice Ao54 t541.length co54)) (fun _ h_ => h_.1)))); (case side2 => exact (Zu HO543.out).2.1); (case side3 => refine (Zp (e := 3) (base := w.heap.size) (ok := fun k_ => True) (n := t544.length) (c := co55) ?_).2.2; exact (by (with_reducible repeat (first | apply Kd.R_alloc | apply Kd.R_drewN | apply ZR)); exact (Zz (Kd.R_far (p := ⟨gb547, 1, none⟩) (Kd.R_far (p := ⟨gb547, 0, none⟩) (Kd.R_types HO546.out BK547.out (by decide)) (fun _ hk => hk.2) (.int .i64 t540)) (fun _ hk => hk.2) (.slice Ao54 t541.length co54)) (fun _ h_ => h_.1)))); (case side4 => exact (Zp HO546.out).2.1); rintro e w56 ⟨rfl, hb⟩; refine ⟨_, rfl, ?_⟩; replace HO_521001 := Aside0.mk (Zk (by (with_reducible repeat (first | apply Zy | apply Zx | apply Zr)); exact (Zs (Zw (p := ⟨gb547, 1, none⟩) (Zw (p := ⟨gb547, 0, none⟩) (ZC HO_521001.out BK547.out (by decide)) (fun _ hk => hk.2) (.int .i64 t540)) (fun _ hk => hk.2) (.slice Ao54 t541.length co54)) (fun _ h_ => h_.1))) hb); replace HO_535001 := Aside0.mk (Zk (by (with_reducible repeat (first | apply Zy | apply Zx | apply Zr)); exact (Zs (Zw (p := ⟨gb547, 1, none⟩) (Zw (p := ⟨gb547, 0, none⟩) (ZC HO_535001.out BK547.out (by decide)) (fun _ hk => hk.2) (.int .i64 t540)) (fun _ hk => hk.2) (.slice Ao54 t541.length co54)) (fun _ h_ => h_.1))) hb); replace HO543 := Aside0.mk (Zk (by (with_reducible repeat (first | apply Zy | apply Zx | apply Zr)); exact (Zs (Zw (p := ⟨gb547, 1, none⟩) (Zw (p := ⟨gb547, 0, none⟩) (ZC HO543.out BK547.out (by decide)) (fun _ hk => hk.2) (.int .i64 t540)) (fun _ hk => hk.2) (.slice Ao54 t541.length co54)) (fun _ h_ => h_.1))) hb); replace HO546 := Aside0.mk (ZN (by (with_reducible repeat (first | apply Kd.R_alloc | apply Kd.R_drewN | apply ZR)); exact (Zz (Kd.R_far (p := ⟨gb547, 1, none⟩) (Kd.R_far (p := ⟨gb547, 0, none⟩) (Kd.R_types HO546.out BK547.out (by decide)) (fun _ hk => hk.2) (.int .i64 t540)) (fun _ hk => hk.2) (.slice Ao54 t541.length co54)) (fun _ h_ => h_.1))) hb); replace BK520 := Aside0.mk (Zc (g := gb520) (o := .cells #[.int .i64 t515, .slice Ao24 t516.length co24] 27 (0, 0)) (by (with_reducible repeat (first | refine Zg ?_ _ | refine Zd ?_ | refine Zf ?_ _)); refine ZK ?_ NB520_547.out _; (with_reducible repeat (first | refine Zg ?_ _ | refine Zd ?_ | refine Zf ?_ _)); refine ZK ?_ NB520_547.out _; (with_reducible repeat (first | refine Zg ?_ _ | refine Zd ?_ | refine Zf ?_ _)); exact BK520.out) hb); replace BK534 := Aside0.mk (Zc (g := gb534) (o := .cells #[.int .i64 t526, .slice Ao34 t527.length co34] 27 (0, 0)) (by (with_reducible repeat (first | refine Zg ?_ _ | refine Zd ?_ | refine Zf ?_ _)); refine ZK ?_ NB534_547.out _; (with_reducible repeat (first | refine Zg ?_ _ | refine Zd ?_ | refine Zf ?_ _)); refine ZK ?_ NB534_547.out _; (with_reducible repeat (first | refine Zg ?_ _ | refine Zd ?_ | refine Zf ?_ _)); exact BK534.out) hb); replace BK547 := Aside0.mk (Zc (g := gb547) (o := .cells #[.int .i64 t540, .slice Ao54 t541.length co54] 27 (0, 0)) (by (with_reducible repeat (first | refine Zg ?_ _ | refine Zd ?_ | refine Zf ?_ _)); refine ZT (cs := #[.int .i64 t540, .slice none 0 0]) ?_ 1 _ rfl; (with_reducible repeat (first | refine Zg ?_ _ | refine Zd ?_ | refine Zf ?_ _)); refine ZT (cs := #[.int .i64 0, .slice none 0 0]) ?_ 0 _ rfl; (with_reducible repeat (first | refine Zg ?_ _ | refine Zd ?_ | refine Zf ?_ _)); exact BK547.out) hb); replace HB := Aside0.mk (Ze hB_ hb); (try clear hb); (try clear hb2); (try clear hk); (try clear hi); have hcz57_0 : w56.cell? ⟨gb547, 0, none⟩ = some (.int .i64 t540) := (Za BK547.out 0).trans rfl; have hcz57_1 : w56.cell? ⟨gb547, 1, none⟩ = some (.slice Ao54 t541.length co54) := (Za BK547.out 1).trans rfl; have hfz57_0 := Zb BK547.out 0; have hfz57_1 := Zb BK547.out 1) | ((with_reducible refine Zj (f := 38) rfl ?_); refine ZE (some 60) rfl rfl Try.func38 (by kernel_rfl) rfl #[.agg #[.int .i64 t540, .slice Ao54 t541.length co54], .slice Ao55 t544.length co55] rfl ar_ ?_; (with_reducible refine (impl_IsLine.calls kj19 t540 _ _ t541 _ _ t544 t549 _ ?side1 ?side2 ?side3 ?side4 A47.out).mono ?_); (case side1 => repeat (first | exact (Zu HO543.out).2.2 | (with_reducible refine ZB ?_ _) | (with_reducible refine ZA ?_ _) | (with_reducible refine ZG ?_))); (case side2 => exact (Zu HO543.out).2.1); (case side3 => repeat (first | exact (Zp HO546.out).2.2 | (with_reducible refine ZB ?_ _) | (with_reducible refine ZA ?_ _) | (with_reducible refine ZG ?_))); (case side4 => exact (Zp HO546.out).2.1); rintro e w58 ⟨rfl, hb⟩; refine ⟨_, rfl, ?_⟩; replace HO_521001 := Aside0.mk (Zk (rS_ HO_521001.out) hb); replace HO_535001 := Aside0.mk (Zk (rS_ HO_535001.out) hb); replace HO543 := Aside0.mk (Zk (rS_ HO543.out) hb); replace HO546 := Aside0.mk (ZN (rR_ HO546.out) hb); replace BK520 := Aside0.mk (Zc (g := gb520) (o := .cells #[.int .i64 t515, .slice Ao24 t516.length co24] 27 (0, 0)) (bk_ BK520.out) hb); replace BK534 := Aside0.mk (Zc (g := gb534) (o := .cells #[.int .i64 t526, .slice Ao34 t527.length co34] 27 (0, 0)) (bk_ BK534.out) hb); replace BK547 := Aside0.mk (Zc (g := gb547) (o := .cells #[.int .i64 t540, .slice Ao54 t541.length co54] 27 (0, 0)) (bk_ BK547.out) hb); replace HB := Aside0.mk (Ze hB_ hb); (try clear hb); (try clear hb2); (try clear hk); (try clear hi)))
       all_goals go_ret
       all_goals exact ⟨er_, hB_⟩
      ·rw [if_neg c48] at H
       have c48b0 : ((t548.toList != ([] : List UInt8)) != t549) = false := by simpa using c48
       (try (have c48b4 : t548.toList.isEmpty = !t549 := by revert c48; cases t548.toList <;> cases t549 <;> simp))
       (try (have c48b1 : decide ((t548.toList != ([] : List UInt8)) = t549) = true := by simpa using c48))
       (try (have c48b2 : ((t548.toList != ([] : List UInt8)) == t549) = true := by simpa using c48))
       clear c48
       replace H := Option.bind_eq_some_iff.mp H
       obtain ⟨t550, A590, H⟩ := H
       replace H : (if t550 = true then ((impl_LongestGame.f kj19 t540 t541).bind fun t551 => (if (t544.length : Int) > t551 then (some false) else (if t548.toList = ([102, 105, 114, 115, 116] : List UInt8) then (if ((t544.length : Int) % 2) = 1 then (if 0 ≤ (wrap64 ((t544.length : Int) - 1)) then (if (wrap64 ((t544.length : Int) - 1)) < (t544.length : Int) then ((impl_AttackersOf.f kj19 t540 t541 (rd t544 (wrap64 ((t544.length : Int) - 1)))).bind fun t553 => (some ((t553.length : Int) == 0))) else (none)) else (none)) else (some false)) else (some true)))) else (if t548.toList = ([102, 105, 114, 115, 116] : List UInt8) then (if ((t544.length : Int) % 2) = 1 then (if 0 ≤ (wrap64 ((t544.length : Int) - 1)) then (if (wrap64 ((t544.length : Int) - 1)) < (t544.length : Int) then ((impl_AttackersOf.f kj19 t540 t541 (rd t544 (wrap64 ((t544.length : Int) - 1)))).bind fun t557 => (some ((t557.length : Int) == 0))) else (none)) else (none)) else (some false)) else (some true))) = some r := H
       have A59 := Aside0.mk A590
       clear A590
       by_cases c60 : t550 = true
       ·subst c60
        have H1 : ((impl_LongestGame.f kj19 t540 t541).bind fun t551 => (if (t544.length : Int) > t551 then (some false) else (if t548.toList = ([102, 105, 114, 115, 116] : List UInt8) then (if ((t544.length : Int) % 2) = 1 then (if 0 ≤ (wrap64 ((t544.length : Int) - 1)) then (if (wrap64 ((t544.length : Int) - 1)) < (t544.length : Int) then ((impl_AttackersOf.f kj19 t540 t541 (rd t544 (wrap64 ((t544.length : Int) - 1)))).bind fun t553 => (some ((t553.length : Int) == 0))) else (none)) else (none)) else (some false)) else (some true)))) = some r := by rw [if_pos rfl] at H; exact H
        clear H
        have H := H1
        clear H1
        replace H := Option.bind_eq_some_iff.mp H
        obtain ⟨t551, A610, H⟩ := H
        replace H : (if (t544.length : Int) > t551 then (some false) else (if t548.toList = ([102, 105, 114, 115, 116] : List UInt8) then (if ((t544.length : Int) % 2) = 1 then (if 0 ≤ (wrap64 ((t544.length : Int) - 1)) then (if (wrap64 ((t544.length : Int) - 1)) < (t544.length : Int) then ((impl_AttackersOf.f kj19 t540 t541 (rd t544 (wrap64 ((t544.length : Int) - 1)))).bind fun t553 => (some ((t553.length : Int) == 0))) else (none)) else (none)) else (some false)) else (some true))) = some r := H
        have A61 := Aside0.mk A610
        clear A610
        by_cases c62 : (t544.length : Int) > t551
        ·rw [if_pos c62] at H
         have c62b0 : decide (t551 < (t544.length : Int)) = true := decide_eq_true c62
         clear c62
         obtain rfl := Option.some.inj H
         go_wp2_with (first | ((with_reducible refine Zj (f := 36) rfl ?_); refine ZE (some 50) rfl rfl Try.func36 (by kernel_rfl) rfl #[.slice A0 l0.length c0] rfl ar_ ?_; (with_reducible refine (spec_DrawWinnerOf.calls kj19 _ _ l0 t540 t541 t544 _ ?side1 ?side2 A45.out).mono ?_); (case side1 => exact cb_ HR0.out); (case side2 => exact HC0.out); rintro e w63 ⟨v542, v545, rfl, ho0, ho1, hb⟩; refine ⟨_, rfl, ?_⟩; have HO543 := Aside0.mk (Kd.S_lower (Kd.S_new' (Kd.S_new' ho0 (Kd.S_lt (rS_ HO_521001.out))) (Kd.S_lt (rS_ HO_535001.out))) (Zl hB_)); replace HO_521001 := Aside0.mk (Zs (Kd.S_told (Kd.S_told (Kd.S_old (rS_ HO_521001.out) hb) (Kd.S_base ho0)) (ZS ho1)) (fun _ h_ => h_.1)); replace HO_535001 := Aside0.mk (Zs (Kd.S_told (Kd.S_told (Kd.S_old (rS_ HO_535001.out) hb) (Kd.S_base ho0)) (ZS ho1)) (fun _ h_ => h_.1)); have HO546 := Aside0.mk (ZI ho1 (Zl hB_)); replace BK520 := Aside0.mk (Zc (g := gb520) (o := .cells #[.int .i64 t515, .slice Ao24 t516.length co24] 27 (0, 0)) (bk_ BK520.out) hb); replace BK534 := Aside0.mk (Zc (g := gb534) (o := .cells #[.int .i64 t526, .slice Ao34 t527.length co34] 27 (0, 0)) (bk_ BK534.out) hb); replace HB := Aside0.mk (Ze hB_ hb); (try clear hb); (try clear hb2); (try clear hk); (try clear hi); (try clear ho0); (try clear ho1)) | ((with_reducible refine ZD (N := 9) rfl ?_); (try (refine gate_guard (by rfl) ?_; dsimp only)); refine ZH ?hg (N := 9) ?hd (cs := #[.int .i64 0, .slice none 0 0]) (t := 27) ?hr ?_; (case hd => rfl); (case hg => rfl); (case hr => first | (go_simp; done) | (go_simp; rfl)); intro gb547 hg w64 hbox hb; replace HO_521001 := Aside0.mk (Zk (rS_ HO_521001.out) hb); replace HO_535001 := Aside0.mk (Zk (rS_ HO_535001.out) hb); replace HO543 := Aside0.mk (Zk (rS_ HO543.out) hb); replace HO546 := Aside0.mk (ZN (rR_ HO546.out) hb); have BK547 := Aside0.mk (hbox); have GW547 := Aside0.mk ((hz_ hg : w.heap.size ≤ gb547)); have GE547 := Aside0.mk ((hz_ hg : w.heap.size ≤ gb547)); replace HB := Aside0.mk (Ze hB_ hb); have NB520_547 := Aside0.mk ((by rw [hg]; exact Nat.ne_of_lt (blk_lt (g := gb520) (o := .cells #[.int .i64 t515, .slice Ao24 t516.length co24] 27 (0, 0)) (bk_ BK520.out)) : gb520 ≠ gb547)); have NB547_520 := Aside0.mk ((by rw [hg]; exact Nat.ne_of_gt (blk_lt (g := gb520) (o := .cells #[.int .i64 t515, .slice Ao24 t516.length co24] 27 (0, 0)) (bk_ BK520.out)) : gb547 ≠ gb520)); replace BK520 := Aside0.mk (Zc (g := gb520) (o := .cells #[.int .i64 t515, .slice Ao24 t516.length co24] 27 (0, 0)) (bk_ BK520.out) hb); have NB534_547 := Aside0.mk ((by rw [hg]; exact Nat.ne_of_lt (blk_lt (g := gb534) (o := .cells #[.int .i64 t526, .slice Ao34 t527.length co34] 27 (0, 0)) (bk_ BK534.out)) : gb534 ≠ gb547)); have NB547_534 := Aside0.mk ((by rw [hg]; exact Nat.ne_of_gt (blk_lt (g := gb534) (o := .cells #[.int .i64 t526, .slice Ao34 t527.length co34] 27 (0, 0)) (bk_ BK534.out)) : gb547 ≠ gb534)); replace BK534 := Aside0.mk (Zc (g := gb534) (o := .cells #[.int .i64 t526, .slice Ao34 t527.length co34] 27 (0, 0)) (bk_ BK534.out) hb); clear hb hbox hg; have hnb65 := NB547_520.out; have hnc65 := NB520_547.out; have hnb66 := NB547_534.out; have hnc66 := NB534_547.out; have hcz67_0 : w64.cell? ⟨gb547, 0, none⟩ = some (.int .i64 0) := (Za BK547.out 0).trans rfl; have hcz67_1 : w64.cell? ⟨gb547, 1, none⟩ = some (.slice none 0 0) := (Za BK547.out 1).trans rfl; have hfz67_0 := Zb BK547.out 0; have hfz67_1 := Zb BK547.out 1; obtain ⟨Ao68, co68, eo68⟩ := Kd.S_slice HO543.out; subst eo68; obtain ⟨Ao69, co69, eo69⟩ := ZP HO546.out; subst eo69) | ((with_reducible refine Zj (f := 37) rfl ?_); refine ZE (some 55) rfl rfl Try.func37 (by kernel_rfl) rfl #[.agg #[.int .i64 t540, .slice Ao68 t541.length co68], .slice Ao69 t544.length co69] rfl ar_ ?_; (with_reducible refine (impl_WinnerOf.calls kj19 t540 _ _ t541 _ _ t544 t548 _ ?side1 ?side2 ?side3 ?side4 A46.out).mono ?_); (case side1 => refine (Zu (e := 31) (base := w.heap.size) (ok := fun k_ => ((some k_ ≠ (.slice Ao69 t544.length co69 : Value).ownBlock ∧ some k_ ≠ (.slice Ao24 t516.length co24 : Value).ownBlock) ∧ some k_ ≠ (.slice Ao34 t527.length co34 : Value).ownBlock)) (n := t541.length) (c := co68) ?_).2.2; exact (by (with_reducible repeat (first | apply Zy | apply Zx | apply Zr)); exact (Zs (Zw (p := ⟨gb547, 1, none⟩) (Zw (p := ⟨gb547, 0, none⟩) (ZC HO543.out BK547.out (by decide)) (fun _ hk => hk.2) (.int .i64 t540)) (fun _ hk => hk.2) (.slice Ao68 t541.length co68)) (fun _ h_ => h_.1)))); (case side2 => exact (Zu HO543.out).2.1); (case side3 => refine (Zp (e := 3) (base := w.heap.size) (ok := fun k_ => True) (n := t544.length) (c := co69) ?_).2.2; exact (by (with_reducible repeat (first | apply Kd.R_alloc | apply Kd.R_drewN | apply ZR)); exact (Zz (Kd.R_far (p := ⟨gb547, 1, none⟩) (Kd.R_far (p := ⟨gb547, 0, none⟩) (Kd.R_types HO546.out BK547.out (by decide)) (fun _ hk => hk.2) (.int .i64 t540)) (fun _ hk => hk.2) (.slice Ao68 t541.length co68)) (fun _ h_ => h_.1)))); (case side4 => exact (Zp HO546.out).2.1); rintro e w70 ⟨rfl, hb⟩; refine ⟨_, rfl, ?_⟩; replace HO_521001 := Aside0.mk (Zk (by (with_reducible repeat (first | apply Zy | apply Zx | apply Zr)); exact (Zs (Zw (p := ⟨gb547, 1, none⟩) (Zw (p := ⟨gb547, 0, none⟩) (ZC HO_521001.out BK547.out (by decide)) (fun _ hk => hk.2) (.int .i64 t540)) (fun _ hk => hk.2) (.slice Ao68 t541.length co68)) (fun _ h_ => h_.1))) hb); replace HO_535001 := Aside0.mk (Zk (by (with_reducible repeat (first | apply Zy | apply Zx | apply Zr)); exact (Zs (Zw (p := ⟨gb547, 1, none⟩) (Zw (p := ⟨gb547, 0, none⟩) (ZC HO_535001.out BK547.out (by decide)) (fun _ hk => hk.2) (.int .i64 t540)) (fun _ hk => hk.2) (.slice Ao68 t541.length co68)) (fun _ h_ => h_.1))) hb); replace HO543 := Aside0.mk (Zk (by (with_reducible repeat (first | apply Zy | apply Zx | apply Zr)); exact (Zs (Zw (p := ⟨gb547, 1, none⟩) (Zw (p := ⟨gb547, 0, none⟩) (ZC HO543.out BK547.out (by decide)) (fun _ hk => hk.2) (.int .i64 t540)) (fun _ hk => hk.2) (.slice Ao68 t541.length co68)) (fun _ h_ => h_.1))) hb); replace HO546 := Aside0.mk (ZN (by (with_reducible repeat (first | apply Kd.R_alloc | apply Kd.R_drewN | apply ZR)); exact (Zz (Kd.R_far (p := ⟨gb547, 1, none⟩) (Kd.R_far (p := ⟨gb547, 0, none⟩) (Kd.R_types HO546.out BK547.out (by decide)) (fun _ hk => hk.2) (.int .i64 t540)) (fun _ hk => hk.2) (.slice Ao68 t541.length co68)) (fun _ h_ => h_.1))) hb); replace BK520 := Aside0.mk (Zc (g := gb520) (o := .cells #[.int .i64 t515, .slice Ao24 t516.length co24] 27 (0, 0)) (by (with_reducible repeat (first | refine Zg ?_ _ | refine Zd ?_ | refine Zf ?_ _)); refine ZK ?_ NB520_547.out _; (with_reducible repeat (first | refine Zg ?_ _ | refine Zd ?_ | refine Zf ?_ _)); refine ZK ?_ NB520_547.out _; (with_reducible repeat (first | refine Zg ?_ _ | refine Zd ?_ | refine Zf ?_ _)); exact BK520.out) hb); replace BK534 := Aside0.mk (Zc (g := gb534) (o := .cells #[.int .i64 t526, .slice Ao34 t527.length co34] 27 (0, 0)) (by (with_reducible repeat (first | refine Zg ?_ _ | refine Zd ?_ | refine Zf ?_ _)); refine ZK ?_ NB534_547.out _; (with_reducible repeat (first | refine Zg ?_ _ | refine Zd ?_ | refine Zf ?_ _)); refine ZK ?_ NB534_547.out _; (with_reducible repeat (first | refine Zg ?_ _ | refine Zd ?_ | refine Zf ?_ _)); exact BK534.out) hb); replace BK547 := Aside0.mk (Zc (g := gb547) (o := .cells #[.int .i64 t540, .slice Ao68 t541.length co68] 27 (0, 0)) (by (with_reducible repeat (first | refine Zg ?_ _ | refine Zd ?_ | refine Zf ?_ _)); refine ZT (cs := #[.int .i64 t540, .slice none 0 0]) ?_ 1 _ rfl; (with_reducible repeat (first | refine Zg ?_ _ | refine Zd ?_ | refine Zf ?_ _)); refine ZT (cs := #[.int .i64 0, .slice none 0 0]) ?_ 0 _ rfl; (with_reducible repeat (first | refine Zg ?_ _ | refine Zd ?_ | refine Zf ?_ _)); exact BK547.out) hb); replace HB := Aside0.mk (Ze hB_ hb); (try clear hb); (try clear hb2); (try clear hk); (try clear hi); have hcz71_0 : w70.cell? ⟨gb547, 0, none⟩ = some (.int .i64 t540) := (Za BK547.out 0).trans rfl; have hcz71_1 : w70.cell? ⟨gb547, 1, none⟩ = some (.slice Ao68 t541.length co68) := (Za BK547.out 1).trans rfl; have hfz71_0 := Zb BK547.out 0; have hfz71_1 := Zb BK547.out 1) | ((with_reducible refine Zj (f := 38) rfl ?_); refine ZE (some 60) rfl rfl Try.func38 (by kernel_rfl) rfl #[.agg #[.int .i64 t540, .slice Ao68 t541.length co68], .slice Ao69 t544.length co69] rfl ar_ ?_; (with_reducible refine (impl_IsLine.calls kj19 t540 _ _ t541 _ _ t544 t549 _ ?side1 ?side2 ?side3 ?side4 A47.out).mono ?_); (case side1 => repeat (first | exact (Zu HO543.out).2.2 | (with_reducible refine ZB ?_ _) | (with_reducible refine ZA ?_ _) | (with_reducible refine ZG ?_))); (case side2 => exact (Zu HO543.out).2.1); (case side3 => repeat (first | exact (Zp HO546.out).2.2 | (with_reducible refine ZB ?_ _) | (with_reducible refine ZA ?_ _) | (with_reducible refine ZG ?_))); (case side4 => exact (Zp HO546.out).2.1); rintro e w72 ⟨rfl, hb⟩; refine ⟨_, rfl, ?_⟩; replace HO_521001 := Aside0.mk (Zk (rS_ HO_521001.out) hb); replace HO_535001 := Aside0.mk (Zk (rS_ HO_535001.out) hb); replace HO543 := Aside0.mk (Zk (rS_ HO543.out) hb); replace HO546 := Aside0.mk (ZN (rR_ HO546.out) hb); replace BK520 := Aside0.mk (Zc (g := gb520) (o := .cells #[.int .i64 t515, .slice Ao24 t516.length co24] 27 (0, 0)) (bk_ BK520.out) hb); replace BK534 := Aside0.mk (Zc (g := gb534) (o := .cells #[.int .i64 t526, .slice Ao34 t527.length co34] 27 (0, 0)) (bk_ BK534.out) hb); replace BK547 := Aside0.mk (Zc (g := gb547) (o := .cells #[.int .i64 t540, .slice Ao68 t541.length co68] 27 (0, 0)) (bk_ BK547.out) hb); replace HB := Aside0.mk (Ze hB_ hb); (try clear hb); (try clear hb2); (try clear hk); (try clear hi); have hcz73_0 : w72.cell? ⟨gb547, 0, none⟩ = some (.int .i64 t540) := (Za BK547.out 0).trans rfl; have hcz73_1 : w72.cell? ⟨gb547, 1, none⟩ = some (.slice Ao68 t541.length co68) := (Za BK547.out 1).trans rfl; have hfz73_0 := Zb BK547.out 0; have hfz73_1 := Zb BK547.out 1) | (go_at_call 38; (with_reducible refine (impl_IsLine.calls kj19 t540 _ _ t541 _ _ t544 true _ ?side1 ?side2 ?side3 ?side4 A59.out).mono ?_); (case side1 => repeat (first | exact (Zu HO543.out).2.2 | (with_reducible refine ZB ?_ _) | (with_reducible refine ZA ?_ _) | (with_reducible refine ZG ?_))); (case side2 => exact (Zu HO543.out).2.1); (case side3 => repeat (first | exact (Zp HO546.out).2.2 | (with_reducible refine ZB ?_ _) | (with_reducible refine ZA ?_ _) | (with_reducible refine ZG ?_))); (case side4 => exact (Zp HO546.out).2.1); rintro e w74 ⟨rfl, hb⟩; replace HO_521001 := Aside0.mk (Zk (rS_ HO_521001.out) hb); replace HO_535001 := Aside0.mk (Zk (rS_ HO_535001.out) hb); replace HO543 := Aside0.mk (Zk (rS_ HO543.out) hb); replace HO546 := Aside0.mk (ZN (rR_ HO546.out) hb); replace BK520 := Aside0.mk (Zc (g := gb520) (o := .cells #[.int .i64 t515, .slice Ao24 t516.length co24] 27 (0, 0)) (bk_ BK520.out) hb); replace BK534 := Aside0.mk (Zc (g := gb534) (o := .cells #[.int .i64 t526, .slice Ao34 t527.length co34] 27 (0, 0)) (bk_ BK534.out) hb); replace BK547 := Aside0.mk (Zc (g := gb547) (o := .cells #[.int .i64 t540, .slice Ao68 t541.length co68] 27 (0, 0)) (bk_ BK547.out) hb); replace HB := Aside0.mk (Ze hB_ hb); (try clear hb); (try clear hb2); (try clear hk); (try clear hi); have hcz75_0 : w74.cell? ⟨gb547, 0, none⟩ = some (.int .i64 t540) := (Za BK547.out 0).trans rfl; have hcz75_1 : w74.cell? ⟨gb547, 1, none⟩ = some (.slice Ao68 t541.length co68) := (Za BK547.out 1).trans rfl; have hfz75_0 := Zb BK547.out 0; have hfz75_1 := Zb BK547.out 1) | (go_at_call 39; (with_reducible refine (impl_LongestGame.calls kj19 t540 _ _ t541 t551 _ ?side1 ?side2 A61.out).mono ?_); (case side1 => repeat (first | exact (Zu HO543.out).2.2 | (with_reducible refine ZB ?_ _) | (with_reducible refine ZA ?_ _) | (with_reducible refine ZG ?_))); (case side2 => exact (Zu HO543.out).2.1); rintro e w76 ⟨rfl, hb⟩; replace HO_521001 := Aside0.mk (Zk (rS_ HO_521001.out) hb); replace HO_535001 := Aside0.mk (Zk (rS_ HO_535001.out) hb); replace HO543 := Aside0.mk (Zk (rS_ HO543.out) hb); replace HO546 := Aside0.mk (ZN (rR_ HO546.out) hb); replace BK520 := Aside0.mk (Zc (g := gb520) (o := .cells #[.int .i64 t515, .slice Ao24 t516.length co24] 27 (0, 0)) (bk_ BK520.out) hb); replace BK534 := Aside0.mk (Zc (g := gb534) (o := .cells #[.int .i64 t526, .slice Ao34 t527.length co34] 27 (0, 0)) (bk_ BK534.out) hb); replace BK547 := Aside0.mk (Zc (g := gb547) (o := .cells #[.int .i64 t540, .slice Ao68 t541.length co68] 27 (0, 0)) (bk_ BK547.out) hb); replace HB := Aside0.mk (Ze hB_ hb); (try clear hb); (try clear hb2); (try clear hk); (try clear hi)))
         all_goals go_ret
         all_goals exact ⟨er_, hB_⟩
        ·rw [if_neg c62] at H
         have c62b0 : decide (t551 < (t544.length : Int)) = false := decide_eq_false c62
         clear c62
         by_cases c77 : t548.toList = ([102, 105, 114, 115, 116] : List UInt8)
         ·rw [if_pos c77] at H
          have c77b0 : (t548.toList == ([102, 105, 114, 115, 116] : List UInt8)) = true := beq_iff_eq.mpr c77
          have c77b1 : (t548.toList != ([102, 105, 114, 115, 116] : List UInt8)) = false := bne_eq_false_iff_eq.mpr c77
          clear c77
          by_cases c78 : ((t544.length : Int) % 2) = 1
          ·rw [if_pos c78] at H
           have c78b0 : (((t544.length : Int) % 2) == 1) = true := beq_iff_eq.mpr c78
           have c78z : (Int.tmod (t544.length : Int) 2 == 1) = true := by (first | (rw [Int.tmod_eq_emod_of_nonneg (by omega)]; exact c78b0) | (rw [Int.tmod_eq_emod (by omega)]; exact c78b0) | (rw [Int.tmod_eq_emod]; simpa using c78b0))
           have c78b1 : (((t544.length : Int) % 2) != 1) = false := bne_eq_false_iff_eq.mpr c78
           clear c78
           obtain ⟨ji79, hji79⟩ : ∃ j_ : Int, (wrap64 ((t544.length : Int) - 1)) = j_ := ⟨_, rfl⟩
           replace H : (if 0 ≤ (ji79) then (if (ji79) < (t544.length : Int) then ((impl_AttackersOf.f kj19 t540 t541 (rd t544 (ji79))).bind fun t553 => (some ((t553.length : Int) == 0))) else (none)) else (none)) = some r := by first | (rw [hji79] at H; exact H) | (simp only [hji79] at H ⊢; exact H)
           (try rw [hji79] at A45)
           (try rw [hji79] at A46)
           (try rw [hji79] at A47)
           (try rw [hji79] at A59)
           (try rw [hji79] at A61)
           have hji79w : (IntKind.i64.wrap ((t544.length : Int) - 1)) = ji79 := (i64_w _).trans hji79
           by_cases c80 : 0 ≤ (ji79)
           ·rw [if_pos c80] at H
            have c80b0 : decide (0 ≤ (ji79)) = true := decide_eq_true c80
            clear c80
            by_cases c81 : (ji79) < (t544.length : Int)
            ·rw [if_pos c81] at H
             have c81b0 : decide ((ji79) < (t544.length : Int)) = true := decide_eq_true c81
             clear c81
             replace H := Option.bind_eq_some_iff.mp H
             obtain ⟨t553, A820, H⟩ := H
             replace H : (some ((t553.length : Int) == 0)) = some r := H
             have A82 := Aside0.mk A820
             clear A820
             obtain rfl := Option.some.inj H
             try go_wp2_with (first | ((with_reducible refine Zj (f := 36) rfl ?_); refine ZE (some 50) rfl rfl Try.func36 (by kernel_rfl) rfl #[.slice A0 l0.length c0] rfl ar_ ?_; (with_reducible refine (spec_DrawWinnerOf.calls kj19 _ _ l0 t540 t541 t544 _ ?side1 ?side2 A45.out).mono ?_); (case side1 => exact cb_ HR0.out); (case side2 => exact HC0.out); rintro e w83 ⟨v542, v545, rfl, ho0, ho1, hb⟩; refine ⟨_, rfl, ?_⟩; have HO543 := Aside0.mk (Kd.S_lower (Kd.S_new' (Kd.S_new' ho0 (Kd.S_lt (rS_ HO_521001.out))) (Kd.S_lt (rS_ HO_535001.out))) (Zl hB_)); replace HO_521001 := Aside0.mk (Zs (Kd.S_told (Kd.S_told (Kd.S_old (rS_ HO_521001.out) hb) (Kd.S_base ho0)) (ZS ho1)) (fun _ h_ => h_.1)); replace HO_535001 := Aside0.mk (Zs (Kd.S_told (Kd.S_told (Kd.S_old (rS_ HO_535001.out) hb) (Kd.S_base ho0)) (ZS ho1)) (fun _ h_ => h_.1)); have HO546 := Aside0.mk (ZI ho1 (Zl hB_)); replace BK520 := Aside0.mk (Zc (g := gb520) (o := .cells #[.int .i64 t515, .slice Ao24 t516.length co24] 27 (0, 0)) (bk_ BK520.out) hb); replace BK534 := Aside0.mk (Zc (g := gb534) (o := .cells #[.int .i64 t526, .slice Ao34 t527.length co34] 27 (0, 0)) (bk_ BK534.out) hb); replace HB := Aside0.mk (Ze hB_ hb); (try clear hb); (try clear hb2); (try clear hk); (try clear hi); (try clear ho0); (try clear ho1)) | ((with_reducible refine ZD (N := 9) rfl ?_); (try (refine gate_guard (by rfl) ?_; dsimp only)); refine ZH ?hg (N := 9) ?hd (cs := #[.int .i64 0, .slice none 0 0]) (t := 27) ?hr ?_; (case hd => rfl); (case hg => rfl); (case hr => first | (go_simp; done) | (go_simp; rfl)); intro gb547 hg w84 hbox hb; replace HO_521001 := Aside0.mk (Zk (rS_ HO_521001.out) hb); replace HO_535001 := Aside0.mk (Zk (rS_ HO_535001.out) hb); replace HO543 := Aside0.mk (Zk (rS_ HO543.out) hb); replace HO546 := Aside0.mk (ZN (rR_ HO546.out) hb); have BK547 := Aside0.mk (hbox); have GW547 := Aside0.mk ((hz_ hg : w.heap.size ≤ gb547)); have GE547 := Aside0.mk ((hz_ hg : w.heap.size ≤ gb547)); replace HB := Aside0.mk (Ze hB_ hb); have NB520_547 := Aside0.mk ((by rw [hg]; exact Nat.ne_of_lt (blk_lt (g := gb520) (o := .cells #[.int .i64 t515, .slice Ao24 t516.length co24] 27 (0, 0)) (bk_ BK520.out)) : gb520 ≠ gb547)); have NB547_520 := Aside0.mk ((by rw [hg]; exact Nat.ne_of_gt (blk_lt (g := gb520) (o := .cells #[.int .i64 t515, .slice Ao24 t516.length co24] 27 (0, 0)) (bk_ BK520.out)) : gb547 ≠ gb520)); replace BK520 := Aside0.mk (Zc (g := gb520) (o := .cells #[.int .i64 t515, .slice Ao24 t516.length co24] 27 (0, 0)) (bk_ BK520.out) hb); have NB534_547 := Aside0.mk ((by rw [hg]; exact Nat.ne_of_lt (blk_lt (g := gb534) (o := .cells #[.int .i64 t526, .slice Ao34 t527.length co34] 27 (0, 0)) (bk_ BK534.out)) : gb534 ≠ gb547)); have NB547_534 := Aside0.mk ((by rw [hg]; exact Nat.ne_of_gt (blk_lt (g := gb534) (o := .cells #[.int .i64 t526, .slice Ao34 t527.length co34] 27 (0, 0)) (bk_ BK534.out)) : gb547 ≠ gb534)); replace BK534 := Aside0.mk (Zc (g := gb534) (o := .cells #[.int .i64 t526, .slice Ao34 t527.length co34] 27 (0, 0)) (bk_ BK534.out) hb); clear hb hbox hg; have hnb85 := NB547_520.out; have hnc85 := NB520_547.out; have hnb86 := NB547_534.out; have hnc86 := NB534_547.out; have hcz87_0 : w84.cell? ⟨gb547, 0, none⟩ = some (.int .i64 0) := (Za BK547.out 0).trans rfl; have hcz87_1 : w84.cell? ⟨gb547, 1, none⟩ = some (.slice none 0 0) := (Za BK547.out 1).trans rfl; have hfz87_0 := Zb BK547.out 0; have hfz87_1 := Zb BK547.out 1; obtain ⟨Ao88, co88, eo88⟩ := Kd.S_slice HO543.out; subst eo88; obtain ⟨Ao89, co89, eo89⟩ := ZP HO546.out; subst eo89) | ((with_reducible refine Zj (f := 37) rfl ?_); refine ZE (some 55) rfl rfl Try.func37 (by kernel_rfl) rfl #[.agg #[.int .i64 t540, .slice Ao88 t541.length co88], .slice Ao89 t544.length co89] rfl ar_ ?_; (with_reducible refine (impl_WinnerOf.calls kj19 t540 _ _ t541 _ _ t544 t548 _ ?side1 ?side2 ?side3 ?side4 A46.out).mono ?_); (case side1 => refine (Zu (e := 31) (base := w.heap.size) (ok := fun k_ => ((some k_ ≠ (.slice Ao89 t544.length co89 : Value).ownBlock ∧ some k_ ≠ (.slice Ao24 t516.length co24 : Value).ownBlock) ∧ some k_ ≠ (.slice Ao34 t527.length co34 : Value).ownBlock)) (n := t541.length) (c := co88) ?_).2.2; exact (by (with_reducible repeat (first | apply Zy | apply Zx | apply Zr)); exact (Zs (Zw (p := ⟨gb547, 1, none⟩) (Zw (p := ⟨gb547, 0, none⟩) (ZC HO543.out BK547.out (by decide)) (fun _ hk => hk.2) (.int .i64 t540)) (fun _ hk => hk.2) (.slice Ao88 t541.length co88)) (fun _ h_ => h_.1)))); (case side2 => exact (Zu HO543.out).2.1); (case side3 => refine (Zp (e := 3) (base := w.heap.size) (ok := fun k_ => True) (n := t544.length) (c := co89) ?_).2.2; exact (by (with_reducible repeat (first | apply Kd.R_alloc | apply Kd.R_drewN | apply ZR)); exact (Zz (Kd.R_far (p := ⟨gb547, 1, none⟩) (Kd.R_far (p := ⟨gb547, 0, none⟩) (Kd.R_types HO546.out BK547.out (by decide)) (fun _ hk => hk.2) (.int .i64 t540)) (fun _ hk => hk.2) (.slice Ao88 t541.length co88)) (fun _ h_ => h_.1)))); (case side4 => exact (Zp HO546.out).2.1); rintro e w90 ⟨rfl, hb⟩; refine ⟨_, rfl, ?_⟩; replace HO_521001 := Aside0.mk (Zk (by (with_reducible repeat (first | apply Zy | apply Zx | apply Zr)); exact (Zs (Zw (p := ⟨gb547, 1, none⟩) (Zw (p := ⟨gb547, 0, none⟩) (ZC HO_521001.out BK547.out (by decide)) (fun _ hk => hk.2) (.int .i64 t540)) (fun _ hk => hk.2) (.slice Ao88 t541.length co88)) (fun _ h_ => h_.1))) hb); replace HO_535001 := Aside0.mk (Zk (by (with_reducible repeat (first | apply Zy | apply Zx | apply Zr)); exact (Zs (Zw (p := ⟨gb547, 1, none⟩) (Zw (p := ⟨gb547, 0, none⟩) (ZC HO_535001.out BK547.out (by decide)) (fun _ hk => hk.2) (.int .i64 t540)) (fun _ hk => hk.2) (.slice Ao88 t541.length co88)) (fun _ h_ => h_.1))) hb); replace HO543 := Aside0.mk (Zk (by (with_reducible repeat (first | apply Zy | apply Zx | apply Zr)); exact (Zs (Zw (p := ⟨gb547, 1, none⟩) (Zw (p := ⟨gb547, 0, none⟩) (ZC HO543.out BK547.out (by decide)) (fun _ hk => hk.2) (.int .i64 t540)) (fun _ hk => hk.2) (.slice Ao88 t541.length co88)) (fun _ h_ => h_.1))) hb); replace HO546 := Aside0.mk (ZN (by (with_reducible repeat (first | apply Kd.R_alloc | apply Kd.R_drewN | apply ZR)); exact (Zz (Kd.R_far (p := ⟨gb547, 1, none⟩) (Kd.R_far (p := ⟨gb547, 0, none⟩) (Kd.R_types HO546.out BK547.out (by decide)) (fun _ hk => hk.2) (.int .i64 t540)) (fun _ hk => hk.2) (.slice Ao88 t541.length co88)) (fun _ h_ => h_.1))) hb); replace BK520 := Aside0.mk (Zc (g := gb520) (o := .cells #[.int .i64 t515, .slice Ao24 t516.length co24] 27 (0, 0)) (by (with_reducible repeat (first | refine Zg ?_ _ | refine Zd ?_ | refine Zf ?_ _)); refine ZK ?_ NB520_547.out _; (with_reducible repeat (first | refine Zg ?_ _ | refine Zd ?_ | refine Zf ?_ _)); refine ZK ?_ NB520_547.out _; (with_reducible repeat (first | refine Zg ?_ _ | refine Zd ?_ | refine Zf ?_ _)); exact BK520.out) hb); replace BK534 := Aside0.mk (Zc (g := gb534) (o := .cells #[.int .i64 t526, .slice Ao34 t527.length co34] 27 (0, 0)) (by (with_reducible repeat (first | refine Zg ?_ _ | refine Zd ?_ | refine Zf ?_ _)); refine ZK ?_ NB534_547.out _; (with_reducible repeat (first | refine Zg ?_ _ | refine Zd ?_ | refine Zf ?_ _)); refine ZK ?_ NB534_547.out _; (with_reducible repeat (first | refine Zg ?_ _ | refine Zd ?_ | refine Zf ?_ _)); exact BK534.out) hb); replace BK547 := Aside0.mk (Zc (g := gb547) (o := .cells #[.int .i64 t540, .slice Ao88 t541.length co88] 27 (0, 0)) (by (with_reducible repeat (first | refine Zg ?_ _ | refine Zd ?_ | refine Zf ?_ _)); refine ZT (cs := #[.int .i64 t540, .slice none 0 0]) ?_ 1 _ rfl; (with_reducible repeat (first | refine Zg ?_ _ | refine Zd ?_ | refine Zf ?_ _)); refine ZT (cs := #[.int .i64 0, .slice none 0 0]) ?_ 0 _ rfl; (with_reducible repeat (first | refine Zg ?_ _ | refine Zd ?_ | refine Zf ?_ _)); exact BK547.out) hb); replace HB := Aside0.mk (Ze hB_ hb); (try clear hb); (try clear hb2); (try clear hk); (try clear hi); have hcz91_0 : w90.cell? ⟨gb547, 0, none⟩ = some (.int .i64 t540) := (Za BK547.out 0).trans rfl; have hcz91_1 : w90.cell? ⟨gb547, 1, none⟩ = some (.slice Ao88 t541.length co88) := (Za BK547.out 1).trans rfl; have hfz91_0 := Zb BK547.out 0; have hfz91_1 := Zb BK547.out 1) | ((with_reducible refine Zj (f := 38) rfl ?_); refine ZE (some 60) rfl rfl Try.func38 (by kernel_rfl) rfl #[.agg #[.int .i64 t540, .slice Ao88 t541.length co88], .slice Ao89 t544.length co89] rfl ar_ ?_; (with_reducible refine (impl_IsLine.calls kj19 t540 _ _ t541 _ _ t544 t549 _ ?side1 ?side2 ?side3 ?side4 A47.out).mono ?_); (case side1 => repeat (first | exact (Zu HO543.out).2.2 | (with_reducible refine ZB ?_ _) | (with_reducible refine ZA ?_ _) | (with_reducible refine ZG ?_))); (case side2 => exact (Zu HO543.out).2.1); (case side3 => repeat (first | exact (Zp HO546.out).2.2 | (with_reducible refine ZB ?_ _) | (with_reducible refine ZA ?_ _) | (with_reducible refine ZG ?_))); (case side4 => exact (Zp HO546.out).2.1); rintro e w92 ⟨rfl, hb⟩; refine ⟨_, rfl, ?_⟩; replace HO_521001 := Aside0.mk (Zk (rS_ HO_521001.out) hb); replace HO_535001 := Aside0.mk (Zk (rS_ HO_535001.out) hb); replace HO543 := Aside0.mk (Zk (rS_ HO543.out) hb); replace HO546 := Aside0.mk (ZN (rR_ HO546.out) hb); replace BK520 := Aside0.mk (Zc (g := gb520) (o := .cells #[.int .i64 t515, .slice Ao24 t516.length co24] 27 (0, 0)) (bk_ BK520.out) hb); replace BK534 := Aside0.mk (Zc (g := gb534) (o := .cells #[.int .i64 t526, .slice Ao34 t527.length co34] 27 (0, 0)) (bk_ BK534.out) hb); replace BK547 := Aside0.mk (Zc (g := gb547) (o := .cells #[.int .i64 t540, .slice Ao88 t541.length co88] 27 (0, 0)) (bk_ BK547.out) hb); replace HB := Aside0.mk (Ze hB_ hb); (try clear hb); (try clear hb2); (try clear hk); (try clear hi); have hcz93_0 : w92.cell? ⟨gb547, 0, none⟩ = some (.int .i64 t540) := (Za BK547.out 0).trans rfl; have hcz93_1 : w92.cell? ⟨gb547, 1, none⟩ = some (.slice Ao88 t541.length co88) := (Za BK547.out 1).trans rfl; have hfz93_0 := Zb BK547.out 0; have hfz93_1 := Zb BK547.out 1) | (go_at_call 38; (with_reducible refine (impl_IsLine.calls kj19 t540 _ _ t541 _ _ t544 true _ ?side1 ?side2 ?side3 ?side4 A59.out).mono ?_); (case side1 => repeat (first | exact (Zu HO543.out).2.2 | (with_reducible refine ZB ?_ _) | (with_reducible refine ZA ?_ _) | (with_reducible refine ZG ?_))); (case side2 => exact (Zu HO543.out).2.1); (case side3 => repeat (first | exact (Zp HO546.out).2.2 | (with_reducible refine ZB ?_ _) | (with_reducible refine ZA ?_ _) | (with_reducible refine ZG ?_))); (case side4 => exact (Zp HO546.out).2.1); rintro e w94 ⟨rfl, hb⟩; replace HO_521001 := Aside0.mk (Zk (rS_ HO_521001.out) hb); replace HO_535001 := Aside0.mk (Zk (rS_ HO_535001.out) hb); replace HO543 := Aside0.mk (Zk (rS_ HO543.out) hb); replace HO546 := Aside0.mk (ZN (rR_ HO546.out) hb); replace BK520 := Aside0.mk (Zc (g := gb520) (o := .cells #[.int .i64 t515, .slice Ao24 t516.length co24] 27 (0, 0)) (bk_ BK520.out) hb); replace BK534 := Aside0.mk (Zc (g := gb534) (o := .cells #[.int .i64 t526, .slice Ao34 t527.length co34] 27 (0, 0)) (bk_ BK534.out) hb); replace BK547 := Aside0.mk (Zc (g := gb547) (o := .cells #[.int .i64 t540, .slice Ao88 t541.length co88] 27 (0, 0)) (bk_ BK547.out) hb); replace HB := Aside0.mk (Ze hB_ hb); (try clear hb); (try clear hb2); (try clear hk); (try clear hi); have hcz95_0 : w94.cell? ⟨gb547, 0, none⟩ = some (.int .i64 t540) := (Za BK547.out 0).trans rfl; have hcz95_1 : w94.cell? ⟨gb547, 1, none⟩ = some (.slice Ao88 t541.length co88) := (Za BK547.out 1).trans rfl; have hfz95_0 := Zb BK547.out 0; have hfz95_1 := Zb BK547.out 1) | (go_at_call 39; (with_reducible refine (impl_LongestGame.calls kj19 t540 _ _ t541 t551 _ ?side1 ?side2 A61.out).mono ?_); (case side1 => repeat (first | exact (Zu HO543.out).2.2 | (with_reducible refine ZB ?_ _) | (with_reducible refine ZA ?_ _) | (with_reducible refine ZG ?_))); (case side2 => exact (Zu HO543.out).2.1); rintro e w96 ⟨rfl, hb⟩; replace HO_521001 := Aside0.mk (Zk (rS_ HO_521001.out) hb); replace HO_535001 := Aside0.mk (Zk (rS_ HO_535001.out) hb); replace HO543 := Aside0.mk (Zk (rS_ HO543.out) hb); replace HO546 := Aside0.mk (ZN (rR_ HO546.out) hb); replace BK520 := Aside0.mk (Zc (g := gb520) (o := .cells #[.int .i64 t515, .slice Ao24 t516.length co24] 27 (0, 0)) (bk_ BK520.out) hb); replace BK534 := Aside0.mk (Zc (g := gb534) (o := .cells #[.int .i64 t526, .slice Ao34 t527.length co34] 27 (0, 0)) (bk_ BK534.out) hb); replace BK547 := Aside0.mk (Zc (g := gb547) (o := .cells #[.int .i64 t540, .slice Ao88 t541.length co88] 27 (0, 0)) (bk_ BK547.out) hb); replace HB := Aside0.mk (Ze hB_ hb); (try clear hb); (try clear hb2); (try clear hk); (try clear hi)))
             replace HO_521001 := Aside0.mk (Zr HO_521001.out)
             replace HO_535001 := Aside0.mk (Zr HO_535001.out)
             replace HO543 := Aside0.mk (Zr HO543.out)
             replace HO546 := Aside0.mk (ZR HO546.out)
             replace BK520 := Aside0.mk (Zd BK520.out)
             replace BK534 := Aside0.mk (Zd BK534.out)
             replace BK547 := Aside0.mk (Zd BK547.out)
             replace HB := Aside0.mk (Zi HB.out)
             have p552 : 0 ≤ ((ji79) : Int) := of_decide_eq_true as_
             have q552 : (ji79) < (t544.length : Int) := of_decide_eq_true as_
             obtain ⟨ad552, e552, hx552_0⟩ := Zv (Zp HO546.out).2.2 (ji79) p552 q552
             cases e552
             replace p552 := eq_true p552
             replace q552 := eq_true q552
             refine start_ (n := 21) (S := fun w' => w'.cell? ⟨gb547, 0, none⟩ = some (.int .i64 t540) ∧ w'.cell? ⟨gb547, 1, none⟩ = some (.slice Ao88 t541.length co88) ∧ w'.cell? (ad552.add ((ji79)).toNat) = some (.int .i64 (rd t544 (ji79)))) (ds := []) #[O,O,O,O,O,O,O,O,O,O,O,O,O,O,O,O,O,O,O,O,O] (by kernel_rfl) rfl rfl ⟨(Za BK547.out 0).trans rfl, (Za BK547.out 1).trans rfl, hx552_0⟩ (fun hHeld => ?_); refine with_tabW laws_FnGames.tab14 laws_FnGames.bits14 (fun HT_ HW_ => ?_)
             generalize w96.drew = w97 at HO_521001 HO_535001 HO543 HO546 BK520 BK534 BK547 HB hx552_0 hHeld ⊢
             refine pu_ 0 74 #[Y,O,O,O,O,O,O,O,O,O,O,O,O,O,O,O,O,O,O,O,O] ?_
             refine pu_ 1 75 #[Y,Y,O,O,O,O,O,O,O,O,O,O,O,O,O,O,O,O,O,O,O] ?_
             refine pu_ 2 76 #[Y,Y,Y,O,O,O,O,O,O,O,O,O,O,O,O,O,O,O,O,O,O] ?_
             refine pu_ 3 77 #[Y,Y,Y,Y,O,O,O,O,O,O,O,O,O,O,O,O,O,O,O,O,O] ?_
             refine pu_ 4 78 #[Y,Y,Y,Y,Y,O,O,O,O,O,O,O,O,O,O,O,O,O,O,O,O] ?_
             refine pu_ 5 79 #[Y,Y,Y,Y,Y,Y,O,O,O,O,O,O,O,O,O,O,O,O,O,O,O] ?_
             refine pu_ 6 80 #[Y,Y,Y,Y,Y,Y,Y,O,O,O,O,O,O,O,O,O,O,O,O,O,O] ?_
             refine pu_ 7 81 #[Y,Y,Y,Y,Y,Y,Y,Y,O,O,O,O,O,O,O,O,O,O,O,O,O] ?_
             refine pu_ 9 83 #[Y,Y,Y,Y,Y,Y,Y,Y,O,Y,O,O,O,O,O,O,O,O,O,O,O] ?_
             refine pu_ 10 84 #[Y,Y,Y,Y,Y,Y,Y,Y,O,Y,Y,O,O,O,O,O,O,O,O,O,O] ?_
             refine pu_ 11 85 #[Y,Y,Y,Y,Y,Y,Y,Y,O,Y,Y,Y,O,O,O,O,O,O,O,O,O] ?_
             refine pu_ 12 86 #[Y,Y,Y,Y,Y,Y,Y,Y,O,Y,Y,Y,Y,O,O,O,O,O,O,O,O] ?_
             refine pu_ 13 87 #[Y,Y,Y,Y,Y,Y,Y,Y,O,Y,Y,Y,Y,Y,O,O,O,O,O,O,O] ?_
             refine tk3_ 8 82 #[Y,Y,Y,Y,Y,Y,Y,Y,Y,Y,Y,Y,Y,Y,O,O,O,O,O,O,O] hHeld ?_
             refine tk3_ 14 88 #[Y,Y,Y,Y,Y,Y,Y,Y,Y,Y,Y,Y,Y,Y,Y,O,O,O,O,O,O] hHeld ?_
             refine on_ 15 89 #[Y,Y,Y,Y,Y,Y,Y,Y,Y,Y,Y,Y,Y,Y,Y,Y,O,O,O,O,O] (fun K hK => ?_)
             refine goes_ Try.func40 (by kernel_rfl) rfl #[.agg #[.int .i64 t540, .slice Ao88 t541.length co88], .int .i64 (rd t544 (ji79))] (by rfl) rfl rfl (by (try simp only [List.map_toArray, List.map_cons, List.map_nil]); first | done | (simp only [hji79]; rfl) | rfl | (simp only [List.length_drop, List.length_take]; rfl)) ?_
             with_reducible refine (impl_AttackersOf.calls kj19 t540 _ _ t541 (rd t544 (ji79)) t553 _ ?side1 ?side2 A82.out).mono ?_
             (case side1 => repeat (first | exact (Zu HO543.out).2.2 | (with_reducible refine ZB ?_ _) | (with_reducible refine ZA ?_ _) | (with_reducible refine ZG ?_)))
             (case side2 => exact (Zu HO543.out).2.1)
             rintro e w98 ⟨v554, rfl, ho0, hb⟩
             have HS2_ := (hb.cell (World.block_lt_of_cell? _ _ (hHeld.2.2))).trans (hHeld.2.2)
             refine ⟨_, rfl, ?_⟩
             replace HO_521001 := Aside0.mk (Kd.S_elder' (rS_ HO_521001.out) (ZS ho0) hb)
             replace HO_535001 := Aside0.mk (Kd.S_elder' (rS_ HO_535001.out) (ZS ho0) hb)
             replace HO543 := Aside0.mk (Kd.S_elder' (rS_ HO543.out) (ZS ho0) hb)
             have HO555 := Aside0.mk (ZI (Kd.R_new' ho0 (Kd.R_lt (rR_ HO546.out))) (Zl hB_))
             replace HO546 := Aside0.mk (Kd.R_elder' (rR_ HO546.out) (ZS ho0) hb)
             replace BK520 := Aside0.mk (Zc (g := gb520) (o := .cells #[.int .i64 t515, .slice Ao24 t516.length co24] 27 (0, 0)) (bk_ BK520.out) hb)
             replace BK534 := Aside0.mk (Zc (g := gb534) (o := .cells #[.int .i64 t526, .slice Ao34 t527.length co34] 27 (0, 0)) (bk_ BK534.out) hb)
             replace BK547 := Aside0.mk (Zc (g := gb547) (o := .cells #[.int .i64 t540, .slice Ao88 t541.length co88] 27 (0, 0)) (bk_ BK547.out) hb)
             replace HB := Aside0.mk (Ze hB_ hb)
             (try clear hb)
             (try clear hb2)
             (try clear hk)
             (try clear hi)
             (try clear ho0)
             obtain ⟨Ao99, co99, eo99⟩ := ZP HO555.out
             (first | subst eo99 | (injection eo99 with f1_ f2_ f3_; have f4_ := f1_.symm; have f5_ := f3_.symm; clear f1_ f2_ f3_; subst f4_; subst f5_))
             refine hK.out _ _ ⟨(Za BK547.out 0).trans rfl, (Za BK547.out 1).trans rfl, HS2_⟩ (fun hHeld => ?_)
             clear hK K
             refine no_ 89 ?_
             refine pu_ 16 90 #[Y,Y,Y,Y,Y,Y,Y,Y,Y,Y,Y,Y,Y,Y,Y,Y,Y,O,O,O,O] ?_
             refine pu_ 17 91 #[Y,Y,Y,Y,Y,Y,Y,Y,Y,Y,Y,Y,Y,Y,Y,Y,Y,Y,O,O,O] ?_
             refine pu_ 18 92 #[Y,Y,Y,Y,Y,Y,Y,Y,Y,Y,Y,Y,Y,Y,Y,Y,Y,Y,Y,O,O] ?_
             refine pu_ 19 93 #[Y,Y,Y,Y,Y,Y,Y,Y,Y,Y,Y,Y,Y,Y,Y,Y,Y,Y,Y,Y,O] ?_
             refine pu_ 20 2 #[Y,Y,Y,Y,Y,Y,Y,Y,Y,Y,Y,Y,Y,Y,Y,Y,Y,Y,Y,Y,Y] ?_
             refine done_ (done_of HT_.out (by kernel_rfl)) ?_
             try go_wp2
             all_goals go_ret
             all_goals exact ⟨by first | rfl | (simp [errW_none, errW_some] <;> rfl) | (simp only [← hji79]; first | rfl | (simp [errW_none, errW_some] <;> rfl)) | (simp [*, errW_none, errW_some] <;> rfl), hB_⟩
            ·rw [if_neg c81] at H
             exact absurd H (by simp)
           ·rw [if_neg c80] at H
            exact absurd H (by simp)
          ·rw [if_neg c78] at H
           have c78b0 : (((t544.length : Int) % 2) == 1) = false := beq_eq_false_iff_ne.mpr c78
           have c78z : (Int.tmod (t544.length : Int) 2 == 1) = false := by (first | (rw [Int.tmod_eq_emod_of_nonneg (by omega)]; exact c78b0) | (rw [Int.tmod_eq_emod (by omega)]; exact c78b0) | (rw [Int.tmod_eq_emod]; simpa using c78b0))
           have c78b1 : (((t544.length : Int) % 2) != 1) = true := bne_iff_ne.mpr c78
           obtain rfl := Option.some.inj H
           try go_wp2_with (first | ((with_reducible refine Zj (f := 36) rfl ?_); refine ZE (some 50) rfl rfl Try.func36 (by kernel_rfl) rfl #[.slice A0 l0.length c0] rfl ar_ ?_; (with_reducible refine (spec_DrawWinnerOf.calls kj19 _ _ l0 t540 t541 t544 _ ?side1 ?side2 A45.out).mono ?_); (case side1 => exact cb_ HR0.out); (case side2 => exact HC0.out); rintro e w100 ⟨v542, v545, rfl, ho0, ho1, hb⟩; refine ⟨_, rfl, ?_⟩; have HO543 := Aside0.mk (Kd.S_lower (Kd.S_new' (Kd.S_new' ho0 (Kd.S_lt (rS_ HO_521001.out))) (Kd.S_lt (rS_ HO_535001.out))) (Zl hB_)); replace HO_521001 := Aside0.mk (Zs (Kd.S_told (Kd.S_told (Kd.S_old (rS_ HO_521001.out) hb) (Kd.S_base ho0)) (ZS ho1)) (fun _ h_ => h_.1)); replace HO_535001 := Aside0.mk (Zs (Kd.S_told (Kd.S_told (Kd.S_old (rS_ HO_535001.out) hb) (Kd.S_base ho0)) (ZS ho1)) (fun _ h_ => h_.1)); have HO546 := Aside0.mk (ZI ho1 (Zl hB_)); replace BK520 := Aside0.mk (Zc (g := gb520) (o := .cells #[.int .i64 t515, .slice Ao24 t516.length co24] 27 (0, 0)) (bk_ BK520.out) hb); replace BK534 := Aside0.mk (Zc (g := gb534) (o := .cells #[.int .i64 t526, .slice Ao34 t527.length co34] 27 (0, 0)) (bk_ BK534.out) hb); replace HB := Aside0.mk (Ze hB_ hb); (try clear hb); (try clear hb2); (try clear hk); (try clear hi); (try clear ho0); (try clear ho1)) | ((with_reducible refine ZD (N := 9) rfl ?_); (try (refine gate_guard (by rfl) ?_; dsimp only)); refine ZH ?hg (N := 9) ?hd (cs := #[.int .i64 0, .slice none 0 0]) (t := 27) ?hr ?_; (case hd => rfl); (case hg => rfl); (case hr => first | (go_simp; done) | (go_simp; rfl)); intro gb547 hg w101 hbox hb; replace HO_521001 := Aside0.mk (Zk (rS_ HO_521001.out) hb); replace HO_535001 := Aside0.mk (Zk (rS_ HO_535001.out) hb); replace HO543 := Aside0.mk (Zk (rS_ HO543.out) hb); replace HO546 := Aside0.mk (ZN (rR_ HO546.out) hb); have BK547 := Aside0.mk (hbox); have GW547 := Aside0.mk ((hz_ hg : w.heap.size ≤ gb547)); have GE547 := Aside0.mk ((hz_ hg : w.heap.size ≤ gb547)); replace HB := Aside0.mk (Ze hB_ hb); have NB520_547 := Aside0.mk ((by rw [hg]; exact Nat.ne_of_lt (blk_lt (g := gb520) (o := .cells #[.int .i64 t515, .slice Ao24 t516.length co24] 27 (0, 0)) (bk_ BK520.out)) : gb520 ≠ gb547)); have NB547_520 := Aside0.mk ((by rw [hg]; exact Nat.ne_of_gt (blk_lt (g := gb520) (o := .cells #[.int .i64 t515, .slice Ao24 t516.length co24] 27 (0, 0)) (bk_ BK520.out)) : gb547 ≠ gb520)); replace BK520 := Aside0.mk (Zc (g := gb520) (o := .cells #[.int .i64 t515, .slice Ao24 t516.length co24] 27 (0, 0)) (bk_ BK520.out) hb); have NB534_547 := Aside0.mk ((by rw [hg]; exact Nat.ne_of_lt (blk_lt (g := gb534) (o := .cells #[.int .i64 t526, .slice Ao34 t527.length co34] 27 (0, 0)) (bk_ BK534.out)) : gb534 ≠ gb547)); have NB547_534 := Aside0.mk ((by rw [hg]; exact Nat.ne_of_gt (blk_lt (g := gb534) (o := .cells #[.int .i64 t526, .slice Ao34 t527.length co34] 27 (0, 0)) (bk_ BK534.out)) : gb547 ≠ gb534)); replace BK534 := Aside0.mk (Zc (g := gb534) (o := .cells #[.int .i64 t526, .slice Ao34 t527.length co34] 27 (0, 0)) (bk_ BK534.out) hb); clear hb hbox hg; have hnb102 := NB547_520.out; have hnc102 := NB520_547.out; have hnb103 := NB547_534.out; have hnc103 := NB534_547.out; have hcz104_0 : w101.cell? ⟨gb547, 0, none⟩ = some (.int .i64 0) := (Za BK547.out 0).trans rfl; have hcz104_1 : w101.cell? ⟨gb547, 1, none⟩ = some (.slice none 0 0) := (Za BK547.out 1).trans rfl; have hfz104_0 := Zb BK547.out 0; have hfz104_1 := Zb BK547.out 1; obtain ⟨Ao105, co105, eo105⟩ := Kd.S_slice HO543.out; subst eo105; obtain ⟨Ao106, co106, eo106⟩ := ZP HO546.out; subst eo106) | ((with_reducible refine Zj (f := 37) rfl ?_); refine ZE (some 55) rfl rfl Try.func37 (by kernel_rfl) rfl #[.agg #[.int .i64 t540, .slice Ao105 t541.length co105], .slice Ao106 t544.length co106] rfl ar_ ?_; (with_reducible refine (impl_WinnerOf.calls kj19 t540 _ _ t541 _ _ t544 t548 _ ?side1 ?side2 ?side3 ?side4 A46.out).mono ?_); (case side1 => refine (Zu (e := 31) (base := w.heap.size) (ok := fun k_ => ((some k_ ≠ (.slice Ao106 t544.length co106 : Value).ownBlock ∧ some k_ ≠ (.slice Ao24 t516.length co24 : Value).ownBlock) ∧ some k_ ≠ (.slice Ao34 t527.length co34 : Value).ownBlock)) (n := t541.length) (c := co105) ?_).2.2; exact (by (with_reducible repeat (first | apply Zy | apply Zx | apply Zr)); exact (Zs (Zw (p := ⟨gb547, 1, none⟩) (Zw (p := ⟨gb547, 0, none⟩) (ZC HO543.out BK547.out (by decide)) (fun _ hk => hk.2) (.int .i64 t540)) (fun _ hk => hk.2) (.slice Ao105 t541.length co105)) (fun _ h_ => h_.1)))); (case side2 => exact (Zu HO543.out).2.1); (case side3 => refine (Zp (e := 3) (base := w.heap.size) (ok := fun k_ => True) (n := t544.length) (c := co106) ?_).2.2; exact (by (with_reducible repeat (first | apply Kd.R_alloc | apply Kd.R_drewN | apply ZR)); exact (Zz (Kd.R_far (p := ⟨gb547, 1, none⟩) (Kd.R_far (p := ⟨gb547, 0, none⟩) (Kd.R_types HO546.out BK547.out (by decide)) (fun _ hk => hk.2) (.int .i64 t540)) (fun _ hk => hk.2) (.slice Ao105 t541.length co105)) (fun _ h_ => h_.1)))); (case side4 => exact (Zp HO546.out).2.1); rintro e w107 ⟨rfl, hb⟩; refine ⟨_, rfl, ?_⟩; replace HO_521001 := Aside0.mk (Zk (by (with_reducible repeat (first | apply Zy | apply Zx | apply Zr)); exact (Zs (Zw (p := ⟨gb547, 1, none⟩) (Zw (p := ⟨gb547, 0, none⟩) (ZC HO_521001.out BK547.out (by decide)) (fun _ hk => hk.2) (.int .i64 t540)) (fun _ hk => hk.2) (.slice Ao105 t541.length co105)) (fun _ h_ => h_.1))) hb); replace HO_535001 := Aside0.mk (Zk (by (with_reducible repeat (first | apply Zy | apply Zx | apply Zr)); exact (Zs (Zw (p := ⟨gb547, 1, none⟩) (Zw (p := ⟨gb547, 0, none⟩) (ZC HO_535001.out BK547.out (by decide)) (fun _ hk => hk.2) (.int .i64 t540)) (fun _ hk => hk.2) (.slice Ao105 t541.length co105)) (fun _ h_ => h_.1))) hb); replace HO543 := Aside0.mk (Zk (by (with_reducible repeat (first | apply Zy | apply Zx | apply Zr)); exact (Zs (Zw (p := ⟨gb547, 1, none⟩) (Zw (p := ⟨gb547, 0, none⟩) (ZC HO543.out BK547.out (by decide)) (fun _ hk => hk.2) (.int .i64 t540)) (fun _ hk => hk.2) (.slice Ao105 t541.length co105)) (fun _ h_ => h_.1))) hb); replace HO546 := Aside0.mk (ZN (by (with_reducible repeat (first | apply Kd.R_alloc | apply Kd.R_drewN | apply ZR)); exact (Zz (Kd.R_far (p := ⟨gb547, 1, none⟩) (Kd.R_far (p := ⟨gb547, 0, none⟩) (Kd.R_types HO546.out BK547.out (by decide)) (fun _ hk => hk.2) (.int .i64 t540)) (fun _ hk => hk.2) (.slice Ao105 t541.length co105)) (fun _ h_ => h_.1))) hb); replace BK520 := Aside0.mk (Zc (g := gb520) (o := .cells #[.int .i64 t515, .slice Ao24 t516.length co24] 27 (0, 0)) (by (with_reducible repeat (first | refine Zg ?_ _ | refine Zd ?_ | refine Zf ?_ _)); refine ZK ?_ NB520_547.out _; (with_reducible repeat (first | refine Zg ?_ _ | refine Zd ?_ | refine Zf ?_ _)); refine ZK ?_ NB520_547.out _; (with_reducible repeat (first | refine Zg ?_ _ | refine Zd ?_ | refine Zf ?_ _)); exact BK520.out) hb); replace BK534 := Aside0.mk (Zc (g := gb534) (o := .cells #[.int .i64 t526, .slice Ao34 t527.length co34] 27 (0, 0)) (by (with_reducible repeat (first | refine Zg ?_ _ | refine Zd ?_ | refine Zf ?_ _)); refine ZK ?_ NB534_547.out _; (with_reducible repeat (first | refine Zg ?_ _ | refine Zd ?_ | refine Zf ?_ _)); refine ZK ?_ NB534_547.out _; (with_reducible repeat (first | refine Zg ?_ _ | refine Zd ?_ | refine Zf ?_ _)); exact BK534.out) hb); replace BK547 := Aside0.mk (Zc (g := gb547) (o := .cells #[.int .i64 t540, .slice Ao105 t541.length co105] 27 (0, 0)) (by (with_reducible repeat (first | refine Zg ?_ _ | refine Zd ?_ | refine Zf ?_ _)); refine ZT (cs := #[.int .i64 t540, .slice none 0 0]) ?_ 1 _ rfl; (with_reducible repeat (first | refine Zg ?_ _ | refine Zd ?_ | refine Zf ?_ _)); refine ZT (cs := #[.int .i64 0, .slice none 0 0]) ?_ 0 _ rfl; (with_reducible repeat (first | refine Zg ?_ _ | refine Zd ?_ | refine Zf ?_ _)); exact BK547.out) hb); replace HB := Aside0.mk (Ze hB_ hb); (try clear hb); (try clear hb2); (try clear hk); (try clear hi); have hcz108_0 : w107.cell? ⟨gb547, 0, none⟩ = some (.int .i64 t540) := (Za BK547.out 0).trans rfl; have hcz108_1 : w107.cell? ⟨gb547, 1, none⟩ = some (.slice Ao105 t541.length co105) := (Za BK547.out 1).trans rfl; have hfz108_0 := Zb BK547.out 0; have hfz108_1 := Zb BK547.out 1) | ((with_reducible refine Zj (f := 38) rfl ?_); refine ZE (some 60) rfl rfl Try.func38 (by kernel_rfl) rfl #[.agg #[.int .i64 t540, .slice Ao105 t541.length co105], .slice Ao106 t544.length co106] rfl ar_ ?_; (with_reducible refine (impl_IsLine.calls kj19 t540 _ _ t541 _ _ t544 t549 _ ?side1 ?side2 ?side3 ?side4 A47.out).mono ?_); (case side1 => repeat (first | exact (Zu HO543.out).2.2 | (with_reducible refine ZB ?_ _) | (with_reducible refine ZA ?_ _) | (with_reducible refine ZG ?_))); (case side2 => exact (Zu HO543.out).2.1); (case side3 => repeat (first | exact (Zp HO546.out).2.2 | (with_reducible refine ZB ?_ _) | (with_reducible refine ZA ?_ _) | (with_reducible refine ZG ?_))); (case side4 => exact (Zp HO546.out).2.1); rintro e w109 ⟨rfl, hb⟩; refine ⟨_, rfl, ?_⟩; replace HO_521001 := Aside0.mk (Zk (rS_ HO_521001.out) hb); replace HO_535001 := Aside0.mk (Zk (rS_ HO_535001.out) hb); replace HO543 := Aside0.mk (Zk (rS_ HO543.out) hb); replace HO546 := Aside0.mk (ZN (rR_ HO546.out) hb); replace BK520 := Aside0.mk (Zc (g := gb520) (o := .cells #[.int .i64 t515, .slice Ao24 t516.length co24] 27 (0, 0)) (bk_ BK520.out) hb); replace BK534 := Aside0.mk (Zc (g := gb534) (o := .cells #[.int .i64 t526, .slice Ao34 t527.length co34] 27 (0, 0)) (bk_ BK534.out) hb); replace BK547 := Aside0.mk (Zc (g := gb547) (o := .cells #[.int .i64 t540, .slice Ao105 t541.length co105] 27 (0, 0)) (bk_ BK547.out) hb); replace HB := Aside0.mk (Ze hB_ hb); (try clear hb); (try clear hb2); (try clear hk); (try clear hi); have hcz110_0 : w109.cell? ⟨gb547, 0, none⟩ = some (.int .i64 t540) := (Za BK547.out 0).trans rfl; have hcz110_1 : w109.cell? ⟨gb547, 1, none⟩ = some (.slice Ao105 t541.length co105) := (Za BK547.out 1).trans rfl; have hfz110_0 := Zb BK547.out 0; have hfz110_1 := Zb BK547.out 1) | (go_at_call 38; (with_reducible refine (impl_IsLine.calls kj19 t540 _ _ t541 _ _ t544 true _ ?side1 ?side2 ?side3 ?side4 A59.out).mono ?_); (case side1 => repeat (first | exact (Zu HO543.out).2.2 | (with_reducible refine ZB ?_ _) | (with_reducible refine ZA ?_ _) | (with_reducible refine ZG ?_))); (case side2 => exact (Zu HO543.out).2.1); (case side3 => repeat (first | exact (Zp HO546.out).2.2 | (with_reducible refine ZB ?_ _) | (with_reducible refine ZA ?_ _) | (with_reducible refine ZG ?_))); (case side4 => exact (Zp HO546.out).2.1); rintro e w111 ⟨rfl, hb⟩; replace HO_521001 := Aside0.mk (Zk (rS_ HO_521001.out) hb); replace HO_535001 := Aside0.mk (Zk (rS_ HO_535001.out) hb); replace HO543 := Aside0.mk (Zk (rS_ HO543.out) hb); replace HO546 := Aside0.mk (ZN (rR_ HO546.out) hb); replace BK520 := Aside0.mk (Zc (g := gb520) (o := .cells #[.int .i64 t515, .slice Ao24 t516.length co24] 27 (0, 0)) (bk_ BK520.out) hb); replace BK534 := Aside0.mk (Zc (g := gb534) (o := .cells #[.int .i64 t526, .slice Ao34 t527.length co34] 27 (0, 0)) (bk_ BK534.out) hb); replace BK547 := Aside0.mk (Zc (g := gb547) (o := .cells #[.int .i64 t540, .slice Ao105 t541.length co105] 27 (0, 0)) (bk_ BK547.out) hb); replace HB := Aside0.mk (Ze hB_ hb); (try clear hb); (try clear hb2); (try clear hk); (try clear hi); have hcz112_0 : w111.cell? ⟨gb547, 0, none⟩ = some (.int .i64 t540) := (Za BK547.out 0).trans rfl; have hcz112_1 : w111.cell? ⟨gb547, 1, none⟩ = some (.slice Ao105 t541.length co105) := (Za BK547.out 1).trans rfl; have hfz112_0 := Zb BK547.out 0; have hfz112_1 := Zb BK547.out 1) | (go_at_call 39; (with_reducible refine (impl_LongestGame.calls kj19 t540 _ _ t541 t551 _ ?side1 ?side2 A61.out).mono ?_); (case side1 => repeat (first | exact (Zu HO543.out).2.2 | (with_reducible refine ZB ?_ _) | (with_reducible refine ZA ?_ _) | (with_reducible refine ZG ?_))); (case side2 => exact (Zu HO543.out).2.1); rintro e w113 ⟨rfl, hb⟩; replace HO_521001 := Aside0.mk (Zk (rS_ HO_521001.out) hb); replace HO_535001 := Aside0.mk (Zk (rS_ HO_535001.out) hb); replace HO543 := Aside0.mk (Zk (rS_ HO543.out) hb); replace HO546 := Aside0.mk (ZN (rR_ HO546.out) hb); replace BK520 := Aside0.mk (Zc (g := gb520) (o := .cells #[.int .i64 t515, .slice Ao24 t516.length co24] 27 (0, 0)) (bk_ BK520.out) hb); replace BK534 := Aside0.mk (Zc (g := gb534) (o := .cells #[.int .i64 t526, .slice Ao34 t527.length co34] 27 (0, 0)) (bk_ BK534.out) hb); replace BK547 := Aside0.mk (Zc (g := gb547) (o := .cells #[.int .i64 t540, .slice Ao105 t541.length co105] 27 (0, 0)) (bk_ BK547.out) hb); replace HB := Aside0.mk (Ze hB_ hb); (try clear hb); (try clear hb2); (try clear hk); (try clear hi)))
           replace HO_521001 := Aside0.mk (Zr HO_521001.out)
           replace HO_535001 := Aside0.mk (Zr HO_535001.out)
           replace HO543 := Aside0.mk (Zr HO543.out)
           replace HO546 := Aside0.mk (ZR HO546.out)
           replace BK520 := Aside0.mk (Zd BK520.out)
           replace BK534 := Aside0.mk (Zd BK534.out)
           replace BK547 := Aside0.mk (Zd BK547.out)
           replace HB := Aside0.mk (Zi HB.out)
           refine start_ (n := 21) (S := fun w' => True) (ds := []) #[O,O,O,O,O,O,O,O,O,O,O,O,O,O,O,O,O,O,O,O,O] (by kernel_rfl) rfl rfl trivial (fun hHeld => ?_); refine with_tabW laws_FnGames.tab14 laws_FnGames.bits14 (fun HT_ HW_ => ?_)
           generalize w113.drew = w114 at HO_521001 HO_535001 HO543 HO546 BK520 BK534 BK547 HB hHeld ⊢
           refine pu_ 0 74 #[Y,O,O,O,O,O,O,O,O,O,O,O,O,O,O,O,O,O,O,O,O] ?_
           refine pu_ 1 75 #[Y,Y,O,O,O,O,O,O,O,O,O,O,O,O,O,O,O,O,O,O,O] ?_
           refine pu_ 2 76 #[Y,Y,Y,O,O,O,O,O,O,O,O,O,O,O,O,O,O,O,O,O,O] ?_
           refine pu_ 3 77 #[Y,Y,Y,Y,O,O,O,O,O,O,O,O,O,O,O,O,O,O,O,O,O] ?_
           refine pu_ 4 78 #[Y,Y,Y,Y,Y,O,O,O,O,O,O,O,O,O,O,O,O,O,O,O,O] ?_
           refine pu_ 5 79 #[Y,Y,Y,Y,Y,Y,O,O,O,O,O,O,O,O,O,O,O,O,O,O,O] ?_
           refine pu_ 6 80 #[Y,Y,Y,Y,Y,Y,Y,O,O,O,O,O,O,O,O,O,O,O,O,O,O] ?_
           refine pu_ 7 81 #[Y,Y,Y,Y,Y,Y,Y,Y,O,O,O,O,O,O,O,O,O,O,O,O,O] ?_
           refine pn_ 8 82 #[Y,Y,Y,Y,Y,Y,Y,Y,Y,O,O,O,O,O,O,O,O,O,O,O,O] ?_
           refine pn_ 9 83 #[Y,Y,Y,Y,Y,Y,Y,Y,Y,Y,O,O,O,O,O,O,O,O,O,O,O] ?_
           refine pn_ 10 84 #[Y,Y,Y,Y,Y,Y,Y,Y,Y,Y,Y,O,O,O,O,O,O,O,O,O,O] ?_
           refine pn_ 11 85 #[Y,Y,Y,Y,Y,Y,Y,Y,Y,Y,Y,Y,O,O,O,O,O,O,O,O,O] ?_
           refine pn_ 12 86 #[Y,Y,Y,Y,Y,Y,Y,Y,Y,Y,Y,Y,Y,O,O,O,O,O,O,O,O] ?_
           refine pn_ 13 87 #[Y,Y,Y,Y,Y,Y,Y,Y,Y,Y,Y,Y,Y,Y,O,O,O,O,O,O,O] ?_
           refine pn_ 14 88 #[Y,Y,Y,Y,Y,Y,Y,Y,Y,Y,Y,Y,Y,Y,Y,O,O,O,O,O,O] ?_
           refine pn_ 15 89 #[Y,Y,Y,Y,Y,Y,Y,Y,Y,Y,Y,Y,Y,Y,Y,Y,O,O,O,O,O] ?_
           refine pn_ 16 90 #[Y,Y,Y,Y,Y,Y,Y,Y,Y,Y,Y,Y,Y,Y,Y,Y,Y,O,O,O,O] ?_
           refine pn_ 17 91 #[Y,Y,Y,Y,Y,Y,Y,Y,Y,Y,Y,Y,Y,Y,Y,Y,Y,Y,O,O,O] ?_
           refine pu_ 18 92 #[Y,Y,Y,Y,Y,Y,Y,Y,Y,Y,Y,Y,Y,Y,Y,Y,Y,Y,Y,O,O] ?_
           refine pu_ 19 93 #[Y,Y,Y,Y,Y,Y,Y,Y,Y,Y,Y,Y,Y,Y,Y,Y,Y,Y,Y,Y,O] ?_
           refine pu_ 20 2 #[Y,Y,Y,Y,Y,Y,Y,Y,Y,Y,Y,Y,Y,Y,Y,Y,Y,Y,Y,Y,Y] ?_
           refine done_ (done_of HT_.out (by kernel_rfl)) ?_
           try go_wp2
           all_goals go_ret
           all_goals exact ⟨er_, hB_⟩
         ·rw [if_neg c77] at H
          have c77b0 : (t548.toList == ([102, 105, 114, 115, 116] : List UInt8)) = false := beq_eq_false_iff_ne.mpr c77
          have c77b1 : (t548.toList != ([102, 105, 114, 115, 116] : List UInt8)) = true := bne_iff_ne.mpr c77
          obtain rfl := Option.some.inj H
          try go_wp2_with (first | ((with_reducible refine Zj (f := 36) rfl ?_); refine ZE (some 50) rfl rfl Try.func36 (by kernel_rfl) rfl #[.slice A0 l0.length c0] rfl ar_ ?_; (with_reducible refine (spec_DrawWinnerOf.calls kj19 _ _ l0 t540 t541 t544 _ ?side1 ?side2 A45.out).mono ?_); (case side1 => exact cb_ HR0.out); (case side2 => exact HC0.out); rintro e w115 ⟨v542, v545, rfl, ho0, ho1, hb⟩; refine ⟨_, rfl, ?_⟩; have HO543 := Aside0.mk (Kd.S_lower (Kd.S_new' (Kd.S_new' ho0 (Kd.S_lt (rS_ HO_521001.out))) (Kd.S_lt (rS_ HO_535001.out))) (Zl hB_)); replace HO_521001 := Aside0.mk (Zs (Kd.S_told (Kd.S_told (Kd.S_old (rS_ HO_521001.out) hb) (Kd.S_base ho0)) (ZS ho1)) (fun _ h_ => h_.1)); replace HO_535001 := Aside0.mk (Zs (Kd.S_told (Kd.S_told (Kd.S_old (rS_ HO_535001.out) hb) (Kd.S_base ho0)) (ZS ho1)) (fun _ h_ => h_.1)); have HO546 := Aside0.mk (ZI ho1 (Zl hB_)); replace BK520 := Aside0.mk (Zc (g := gb520) (o := .cells #[.int .i64 t515, .slice Ao24 t516.length co24] 27 (0, 0)) (bk_ BK520.out) hb); replace BK534 := Aside0.mk (Zc (g := gb534) (o := .cells #[.int .i64 t526, .slice Ao34 t527.length co34] 27 (0, 0)) (bk_ BK534.out) hb); replace HB := Aside0.mk (Ze hB_ hb); (try clear hb); (try clear hb2); (try clear hk); (try clear hi); (try clear ho0); (try clear ho1)) | ((with_reducible refine ZD (N := 9) rfl ?_); (try (refine gate_guard (by rfl) ?_; dsimp only)); refine ZH ?hg (N := 9) ?hd (cs := #[.int .i64 0, .slice none 0 0]) (t := 27) ?hr ?_; (case hd => rfl); (case hg => rfl); (case hr => first | (go_simp; done) | (go_simp; rfl)); intro gb547 hg w116 hbox hb; replace HO_521001 := Aside0.mk (Zk (rS_ HO_521001.out) hb); replace HO_535001 := Aside0.mk (Zk (rS_ HO_535001.out) hb); replace HO543 := Aside0.mk (Zk (rS_ HO543.out) hb); replace HO546 := Aside0.mk (ZN (rR_ HO546.out) hb); have BK547 := Aside0.mk (hbox); have GW547 := Aside0.mk ((hz_ hg : w.heap.size ≤ gb547)); have GE547 := Aside0.mk ((hz_ hg : w.heap.size ≤ gb547)); replace HB := Aside0.mk (Ze hB_ hb); have NB520_547 := Aside0.mk ((by rw [hg]; exact Nat.ne_of_lt (blk_lt (g := gb520) (o := .cells #[.int .i64 t515, .slice Ao24 t516.length co24] 27 (0, 0)) (bk_ BK520.out)) : gb520 ≠ gb547)); have NB547_520 := Aside0.mk ((by rw [hg]; exact Nat.ne_of_gt (blk_lt (g := gb520) (o := .cells #[.int .i64 t515, .slice Ao24 t516.length co24] 27 (0, 0)) (bk_ BK520.out)) : gb547 ≠ gb520)); replace BK520 := Aside0.mk (Zc (g := gb520) (o := .cells #[.int .i64 t515, .slice Ao24 t516.length co24] 27 (0, 0)) (bk_ BK520.out) hb); have NB534_547 := Aside0.mk ((by rw [hg]; exact Nat.ne_of_lt (blk_lt (g := gb534) (o := .cells #[.int .i64 t526, .slice Ao34 t527.length co34] 27 (0, 0)) (bk_ BK534.out)) : gb534 ≠ gb547)); have NB547_534 := Aside0.mk ((by rw [hg]; exact Nat.ne_of_gt (blk_lt (g := gb534) (o := .cells #[.int .i64 t526, .slice Ao34 t527.length co34] 27 (0, 0)) (bk_ BK534.out)) : gb547 ≠ gb534)); replace BK534 := Aside0.mk (Zc (g := gb534) (o := .cells #[.int .i64 t526, .slice Ao34 t527.length co34] 27 (0, 0)) (bk_ BK534.out) hb); clear hb hbox hg; have hnb117 := NB547_520.out; have hnc117 := NB520_547.out; have hnb118 := NB547_534.out; have hnc118 := NB534_547.out; have hcz119_0 : w116.cell? ⟨gb547, 0, none⟩ = some (.int .i64 0) := (Za BK547.out 0).trans rfl; have hcz119_1 : w116.cell? ⟨gb547, 1, none⟩ = some (.slice none 0 0) := (Za BK547.out 1).trans rfl; have hfz119_0 := Zb BK547.out 0; have hfz119_1 := Zb BK547.out 1; obtain ⟨Ao120, co120, eo120⟩ := Kd.S_slice HO543.out; subst eo120; obtain ⟨Ao121, co121, eo121⟩ := ZP HO546.out; subst eo121) | ((with_reducible refine Zj (f := 37) rfl ?_); refine ZE (some 55) rfl rfl Try.func37 (by kernel_rfl) rfl #[.agg #[.int .i64 t540, .slice Ao120 t541.length co120], .slice Ao121 t544.length co121] rfl ar_ ?_; (with_reducible refine (impl_WinnerOf.calls kj19 t540 _ _ t541 _ _ t544 t548 _ ?side1 ?side2 ?side3 ?side4 A46.out).mono ?_); (case side1 => refine (Zu (e := 31) (base := w.heap.size) (ok := fun k_ => ((some k_ ≠ (.slice Ao121 t544.length co121 : Value).ownBlock ∧ some k_ ≠ (.slice Ao24 t516.length co24 : Value).ownBlock) ∧ some k_ ≠ (.slice Ao34 t527.length co34 : Value).ownBlock)) (n := t541.length) (c := co120) ?_).2.2; exact (by (with_reducible repeat (first | apply Zy | apply Zx | apply Zr)); exact (Zs (Zw (p := ⟨gb547, 1, none⟩) (Zw (p := ⟨gb547, 0, none⟩) (ZC HO543.out BK547.out (by decide)) (fun _ hk => hk.2) (.int .i64 t540)) (fun _ hk => hk.2) (.slice Ao120 t541.length co120)) (fun _ h_ => h_.1)))); (case side2 => exact (Zu HO543.out).2.1); (case side3 => refine (Zp (e := 3) (base := w.heap.size) (ok := fun k_ => True) (n := t544.length) (c := co121) ?_).2.2; exact (by (with_reducible repeat (first | apply Kd.R_alloc | apply Kd.R_drewN | apply ZR)); exact (Zz (Kd.R_far (p := ⟨gb547, 1, none⟩) (Kd.R_far (p := ⟨gb547, 0, none⟩) (Kd.R_types HO546.out BK547.out (by decide)) (fun _ hk => hk.2) (.int .i64 t540)) (fun _ hk => hk.2) (.slice Ao120 t541.length co120)) (fun _ h_ => h_.1)))); (case side4 => exact (Zp HO546.out).2.1); rintro e w122 ⟨rfl, hb⟩; refine ⟨_, rfl, ?_⟩; replace HO_521001 := Aside0.mk (Zk (by (with_reducible repeat (first | apply Zy | apply Zx | apply Zr)); exact (Zs (Zw (p := ⟨gb547, 1, none⟩) (Zw (p := ⟨gb547, 0, none⟩) (ZC HO_521001.out BK547.out (by decide)) (fun _ hk => hk.2) (.int .i64 t540)) (fun _ hk => hk.2) (.slice Ao120 t541.length co120)) (fun _ h_ => h_.1))) hb); replace HO_535001 := Aside0.mk (Zk (by (with_reducible repeat (first | apply Zy | apply Zx | apply Zr)); exact (Zs (Zw (p := ⟨gb547, 1, none⟩) (Zw (p := ⟨gb547, 0, none⟩) (ZC HO_535001.out BK547.out (by decide)) (fun _ hk => hk.2) (.int .i64 t540)) (fun _ hk => hk.2) (.slice Ao120 t541.length co120)) (fun _ h_ => h_.1))) hb); replace HO543 := Aside0.mk (Zk (by (with_reducible repeat (first | apply Zy | apply Zx | apply Zr)); exact (Zs (Zw (p := ⟨gb547, 1, none⟩) (Zw (p := ⟨gb547, 0, none⟩) (ZC HO543.out BK547.out (by decide)) (fun _ hk => hk.2) (.int .i64 t540)) (fun _ hk => hk.2) (.slice Ao120 t541.length co120)) (fun _ h_ => h_.1))) hb); replace HO546 := Aside0.mk (ZN (by (with_reducible repeat (first | apply Kd.R_alloc | apply Kd.R_drewN | apply ZR)); exact (Zz (Kd.R_far (p := ⟨gb547, 1, none⟩) (Kd.R_far (p := ⟨gb547, 0, none⟩) (Kd.R_types HO546.out BK547.out (by decide)) (fun _ hk => hk.2) (.int .i64 t540)) (fun _ hk => hk.2) (.slice Ao120 t541.length co120)) (fun _ h_ => h_.1))) hb); replace BK520 := Aside0.mk (Zc (g := gb520) (o := .cells #[.int .i64 t515, .slice Ao24 t516.length co24] 27 (0, 0)) (by (with_reducible repeat (first | refine Zg ?_ _ | refine Zd ?_ | refine Zf ?_ _)); refine ZK ?_ NB520_547.out _; (with_reducible repeat (first | refine Zg ?_ _ | refine Zd ?_ | refine Zf ?_ _)); refine ZK ?_ NB520_547.out _; (with_reducible repeat (first | refine Zg ?_ _ | refine Zd ?_ | refine Zf ?_ _)); exact BK520.out) hb); replace BK534 := Aside0.mk (Zc (g := gb534) (o := .cells #[.int .i64 t526, .slice Ao34 t527.length co34] 27 (0, 0)) (by (with_reducible repeat (first | refine Zg ?_ _ | refine Zd ?_ | refine Zf ?_ _)); refine ZK ?_ NB534_547.out _; (with_reducible repeat (first | refine Zg ?_ _ | refine Zd ?_ | refine Zf ?_ _)); refine ZK ?_ NB534_547.out _; (with_reducible repeat (first | refine Zg ?_ _ | refine Zd ?_ | refine Zf ?_ _)); exact BK534.out) hb); replace BK547 := Aside0.mk (Zc (g := gb547) (o := .cells #[.int .i64 t540, .slice Ao120 t541.length co120] 27 (0, 0)) (by (with_reducible repeat (first | refine Zg ?_ _ | refine Zd ?_ | refine Zf ?_ _)); refine ZT (cs := #[.int .i64 t540, .slice none 0 0]) ?_ 1 _ rfl; (with_reducible repeat (first | refine Zg ?_ _ | refine Zd ?_ | refine Zf ?_ _)); refine ZT (cs := #[.int .i64 0, .slice none 0 0]) ?_ 0 _ rfl; (with_reducible repeat (first | refine Zg ?_ _ | refine Zd ?_ | refine Zf ?_ _)); exact BK547.out) hb); replace HB := Aside0.mk (Ze hB_ hb); (try clear hb); (try clear hb2); (try clear hk); (try clear hi); have hcz123_0 : w122.cell? ⟨gb547, 0, none⟩ = some (.int .i64 t540) := (Za BK547.out 0).trans rfl; have hcz123_1 : w122.cell? ⟨gb547, 1, none⟩ = some (.slice Ao120 t541.length co120) := (Za BK547.out 1).trans rfl; have hfz123_0 := Zb BK547.out 0; have hfz123_1 := Zb BK547.out 1) | ((with_reducible refine Zj (f := 38) rfl ?_); refine ZE (some 60) rfl rfl Try.func38 (by kernel_rfl) rfl #[.agg #[.int .i64 t540, .slice Ao120 t541.length co120], .slice Ao121 t544.length co121] rfl ar_ ?_; (with_reducible refine (impl_IsLine.calls kj19 t540 _ _ t541 _ _ t544 t549 _ ?side1 ?side2 ?side3 ?side4 A47.out).mono ?_); (case side1 => repeat (first | exact (Zu HO543.out).2.2 | (with_reducible refine ZB ?_ _) | (with_reducible refine ZA ?_ _) | (with_reducible refine ZG ?_))); (case side2 => exact (Zu HO543.out).2.1); (case side3 => repeat (first | exact (Zp HO546.out).2.2 | (with_reducible refine ZB ?_ _) | (with_reducible refine ZA ?_ _) | (with_reducible refine ZG ?_))); (case side4 => exact (Zp HO546.out).2.1); rintro e w124 ⟨rfl, hb⟩; refine ⟨_, rfl, ?_⟩; replace HO_521001 := Aside0.mk (Zk (rS_ HO_521001.out) hb); replace HO_535001 := Aside0.mk (Zk (rS_ HO_535001.out) hb); replace HO543 := Aside0.mk (Zk (rS_ HO543.out) hb); replace HO546 := Aside0.mk (ZN (rR_ HO546.out) hb); replace BK520 := Aside0.mk (Zc (g := gb520) (o := .cells #[.int .i64 t515, .slice Ao24 t516.length co24] 27 (0, 0)) (bk_ BK520.out) hb); replace BK534 := Aside0.mk (Zc (g := gb534) (o := .cells #[.int .i64 t526, .slice Ao34 t527.length co34] 27 (0, 0)) (bk_ BK534.out) hb); replace BK547 := Aside0.mk (Zc (g := gb547) (o := .cells #[.int .i64 t540, .slice Ao120 t541.length co120] 27 (0, 0)) (bk_ BK547.out) hb); replace HB := Aside0.mk (Ze hB_ hb); (try clear hb); (try clear hb2); (try clear hk); (try clear hi); have hcz125_0 : w124.cell? ⟨gb547, 0, none⟩ = some (.int .i64 t540) := (Za BK547.out 0).trans rfl; have hcz125_1 : w124.cell? ⟨gb547, 1, none⟩ = some (.slice Ao120 t541.length co120) := (Za BK547.out 1).trans rfl; have hfz125_0 := Zb BK547.out 0; have hfz125_1 := Zb BK547.out 1) | (go_at_call 38; (with_reducible refine (impl_IsLine.calls kj19 t540 _ _ t541 _ _ t544 true _ ?side1 ?side2 ?side3 ?side4 A59.out).mono ?_); (case side1 => repeat (first | exact (Zu HO543.out).2.2 | (with_reducible refine ZB ?_ _) | (with_reducible refine ZA ?_ _) | (with_reducible refine ZG ?_))); (case side2 => exact (Zu HO543.out).2.1); (case side3 => repeat (first | exact (Zp HO546.out).2.2 | (with_reducible refine ZB ?_ _) | (with_reducible refine ZA ?_ _) | (with_reducible refine ZG ?_))); (case side4 => exact (Zp HO546.out).2.1); rintro e w126 ⟨rfl, hb⟩; replace HO_521001 := Aside0.mk (Zk (rS_ HO_521001.out) hb); replace HO_535001 := Aside0.mk (Zk (rS_ HO_535001.out) hb); replace HO543 := Aside0.mk (Zk (rS_ HO543.out) hb); replace HO546 := Aside0.mk (ZN (rR_ HO546.out) hb); replace BK520 := Aside0.mk (Zc (g := gb520) (o := .cells #[.int .i64 t515, .slice Ao24 t516.length co24] 27 (0, 0)) (bk_ BK520.out) hb); replace BK534 := Aside0.mk (Zc (g := gb534) (o := .cells #[.int .i64 t526, .slice Ao34 t527.length co34] 27 (0, 0)) (bk_ BK534.out) hb); replace BK547 := Aside0.mk (Zc (g := gb547) (o := .cells #[.int .i64 t540, .slice Ao120 t541.length co120] 27 (0, 0)) (bk_ BK547.out) hb); replace HB := Aside0.mk (Ze hB_ hb); (try clear hb); (try clear hb2); (try clear hk); (try clear hi); have hcz127_0 : w126.cell? ⟨gb547, 0, none⟩ = some (.int .i64 t540) := (Za BK547.out 0).trans rfl; have hcz127_1 : w126.cell? ⟨gb547, 1, none⟩ = some (.slice Ao120 t541.length co120) := (Za BK547.out 1).trans rfl; have hfz127_0 := Zb BK547.out 0; have hfz127_1 := Zb BK547.out 1) | (go_at_call 39; (with_reducible refine (impl_LongestGame.calls kj19 t540 _ _ t541 t551 _ ?side1 ?side2 A61.out).mono ?_); (case side1 => repeat (first | exact (Zu HO543.out).2.2 | (with_reducible refine ZB ?_ _) | (with_reducible refine ZA ?_ _) | (with_reducible refine ZG ?_))); (case side2 => exact (Zu HO543.out).2.1); rintro e w128 ⟨rfl, hb⟩; replace HO_521001 := Aside0.mk (Zk (rS_ HO_521001.out) hb); replace HO_535001 := Aside0.mk (Zk (rS_ HO_535001.out) hb); replace HO543 := Aside0.mk (Zk (rS_ HO543.out) hb); replace HO546 := Aside0.mk (ZN (rR_ HO546.out) hb); replace BK520 := Aside0.mk (Zc (g := gb520) (o := .cells #[.int .i64 t515, .slice Ao24 t516.length co24] 27 (0, 0)) (bk_ BK520.out) hb); replace BK534 := Aside0.mk (Zc (g := gb534) (o := .cells #[.int .i64 t526, .slice Ao34 t527.length co34] 27 (0, 0)) (bk_ BK534.out) hb); replace BK547 := Aside0.mk (Zc (g := gb547) (o := .cells #[.int .i64 t540, .slice Ao120 t541.length co120] 27 (0, 0)) (bk_ BK547.out) hb); replace HB := Aside0.mk (Ze hB_ hb); (try clear hb); (try clear hb2); (try clear hk); (try clear hi)))
          replace HO_521001 := Aside0.mk (Zr HO_521001.out)
          replace HO_535001 := Aside0.mk (Zr HO_535001.out)
          replace HO543 := Aside0.mk (Zr HO543.out)
          replace HO546 := Aside0.mk (ZR HO546.out)
          replace BK520 := Aside0.mk (Zd BK520.out)
          replace BK534 := Aside0.mk (Zd BK534.out)
          replace BK547 := Aside0.mk (Zd BK547.out)
          replace HB := Aside0.mk (Zi HB.out)
          refine start_ (n := 21) (S := fun w' => True) (ds := []) #[O,O,O,O,O,O,O,O,O,O,O,O,O,O,O,O,O,O,O,O,O] (by kernel_rfl) rfl rfl trivial (fun hHeld => ?_); refine with_tabW laws_FnGames.tab14 laws_FnGames.bits14 (fun HT_ HW_ => ?_)
          generalize w128.drew = w129 at HO_521001 HO_535001 HO543 HO546 BK520 BK534 BK547 HB hHeld ⊢
          refine pu_ 0 74 #[Y,O,O,O,O,O,O,O,O,O,O,O,O,O,O,O,O,O,O,O,O] ?_
          refine pu_ 1 75 #[Y,Y,O,O,O,O,O,O,O,O,O,O,O,O,O,O,O,O,O,O,O] ?_
          refine pu_ 2 76 #[Y,Y,Y,O,O,O,O,O,O,O,O,O,O,O,O,O,O,O,O,O,O] ?_
          refine pn_ 3 77 #[Y,Y,Y,Y,O,O,O,O,O,O,O,O,O,O,O,O,O,O,O,O,O] ?_
          refine pn_ 4 78 #[Y,Y,Y,Y,Y,O,O,O,O,O,O,O,O,O,O,O,O,O,O,O,O] ?_
          refine pn_ 5 79 #[Y,Y,Y,Y,Y,Y,O,O,O,O,O,O,O,O,O,O,O,O,O,O,O] ?_
          refine pn_ 6 80 #[Y,Y,Y,Y,Y,Y,Y,O,O,O,O,O,O,O,O,O,O,O,O,O,O] ?_
          refine pn_ 7 81 #[Y,Y,Y,Y,Y,Y,Y,Y,O,O,O,O,O,O,O,O,O,O,O,O,O] ?_
          refine pn_ 8 82 #[Y,Y,Y,Y,Y,Y,Y,Y,Y,O,O,O,O,O,O,O,O,O,O,O,O] ?_
          refine pn_ 9 83 #[Y,Y,Y,Y,Y,Y,Y,Y,Y,Y,O,O,O,O,O,O,O,O,O,O,O] ?_
          refine pn_ 10 84 #[Y,Y,Y,Y,Y,Y,Y,Y,Y,Y,Y,O,O,O,O,O,O,O,O,O,O] ?_
          refine pn_ 11 85 #[Y,Y,Y,Y,Y,Y,Y,Y,Y,Y,Y,Y,O,O,O,O,O,O,O,O,O] ?_
          refine pn_ 12 86 #[Y,Y,Y,Y,Y,Y,Y,Y,Y,Y,Y,Y,Y,O,O,O,O,O,O,O,O] ?_
          refine pn_ 13 87 #[Y,Y,Y,Y,Y,Y,Y,Y,Y,Y,Y,Y,Y,Y,O,O,O,O,O,O,O] ?_
          refine pn_ 14 88 #[Y,Y,Y,Y,Y,Y,Y,Y,Y,Y,Y,Y,Y,Y,Y,O,O,O,O,O,O] ?_
          refine pn_ 15 89 #[Y,Y,Y,Y,Y,Y,Y,Y,Y,Y,Y,Y,Y,Y,Y,Y,O,O,O,O,O] ?_
          refine pn_ 16 90 #[Y,Y,Y,Y,Y,Y,Y,Y,Y,Y,Y,Y,Y,Y,Y,Y,Y,O,O,O,O] ?_
          refine pn_ 17 91 #[Y,Y,Y,Y,Y,Y,Y,Y,Y,Y,Y,Y,Y,Y,Y,Y,Y,Y,O,O,O] ?_
          refine pn_ 18 92 #[Y,Y,Y,Y,Y,Y,Y,Y,Y,Y,Y,Y,Y,Y,Y,Y,Y,Y,Y,O,O] ?_
          refine pu_ 19 93 #[Y,Y,Y,Y,Y,Y,Y,Y,Y,Y,Y,Y,Y,Y,Y,Y,Y,Y,Y,Y,O] ?_
          refine pu_ 20 2 #[Y,Y,Y,Y,Y,Y,Y,Y,Y,Y,Y,Y,Y,Y,Y,Y,Y,Y,Y,Y,Y] ?_
          refine done_ (done_of HT_.out (by kernel_rfl)) ?_
          try go_wp2
          all_goals go_ret
          all_goals exact ⟨er_, hB_⟩
       ·replace c60 := Bool.eq_false_iff.mpr c60
        subst c60
        have H1 : (if t548.toList = ([102, 105, 114, 115, 116] : List UInt8) then (if ((t544.length : Int) % 2) = 1 then (if 0 ≤ (wrap64 ((t544.length : Int) - 1)) then (if (wrap64 ((t544.length : Int) - 1)) < (t544.length : Int) then ((impl_AttackersOf.f kj19 t540 t541 (rd t544 (wrap64 ((t544.length : Int) - 1)))).bind fun t557 => (some ((t557.length : Int) == 0))) else (none)) else (none)) else (some false)) else (some true)) = some r := by rw [if_neg (show ¬ (false = true) by decide)] at H; exact H
        clear H
        have H := H1
        clear H1
        by_cases c130 : t548.toList = ([102, 105, 114, 115, 116] : List UInt8)
        ·rw [if_pos c130] at H
         have c130b0 : (t548.toList == ([102, 105, 114, 115, 116] : List UInt8)) = true := beq_iff_eq.mpr c130
         have c130b1 : (t548.toList != ([102, 105, 114, 115, 116] : List UInt8)) = false := bne_eq_false_iff_eq.mpr c130
         clear c130
         by_cases c131 : ((t544.length : Int) % 2) = 1
         ·rw [if_pos c131] at H
          have c131b0 : (((t544.length : Int) % 2) == 1) = true := beq_iff_eq.mpr c131
          have c131z : (Int.tmod (t544.length : Int) 2 == 1) = true := by (first | (rw [Int.tmod_eq_emod_of_nonneg (by omega)]; exact c131b0) | (rw [Int.tmod_eq_emod (by omega)]; exact c131b0) | (rw [Int.tmod_eq_emod]; simpa using c131b0))
          have c131b1 : (((t544.length : Int) % 2) != 1) = false := bne_eq_false_iff_eq.mpr c131
          clear c131
          obtain ⟨ji132, hji132⟩ : ∃ j_ : Int, (wrap64 ((t544.length : Int) - 1)) = j_ := ⟨_, rfl⟩
          replace H : (if 0 ≤ (ji132) then (if (ji132) < (t544.length : Int) then ((impl_AttackersOf.f kj19 t540 t541 (rd t544 (ji132))).bind fun t557 => (some ((t557.length : Int) == 0))) else (none)) else (none)) = some r := by first | (rw [hji132] at H; exact H) | (simp only [hji132] at H ⊢; exact H)
          (try rw [hji132] at A45)
          (try rw [hji132] at A46)
          (try rw [hji132] at A47)
          (try rw [hji132] at A59)
          have hji132w : (IntKind.i64.wrap ((t544.length : Int) - 1)) = ji132 := (i64_w _).trans hji132
          by_cases c133 : 0 ≤ (ji132)
          ·rw [if_pos c133] at H
           have c133b0 : decide (0 ≤ (ji132)) = true := decide_eq_true c133
           clear c133
           by_cases c134 : (ji132) < (t544.length : Int)
           ·rw [if_pos c134] at H
            have c134b0 : decide ((ji132) < (t544.length : Int)) = true := decide_eq_true c134
            clear c134
            replace H := Option.bind_eq_some_iff.mp H
            obtain ⟨t557, A1350, H⟩ := H
            replace H : (some ((t557.length : Int) == 0)) = some r := H
            have A135 := Aside0.mk A1350
            clear A1350
            obtain rfl := Option.some.inj H
            try go_wp2_with (first | ((with_reducible refine Zj (f := 36) rfl ?_); refine ZE (some 50) rfl rfl Try.func36 (by kernel_rfl) rfl #[.slice A0 l0.length c0] rfl ar_ ?_; (with_reducible refine (spec_DrawWinnerOf.calls kj19 _ _ l0 t540 t541 t544 _ ?side1 ?side2 A45.out).mono ?_); (case side1 => exact cb_ HR0.out); (case side2 => exact HC0.out); rintro e w136 ⟨v542, v545, rfl, ho0, ho1, hb⟩; refine ⟨_, rfl, ?_⟩; have HO543 := Aside0.mk (Kd.S_lower (Kd.S_new' (Kd.S_new' ho0 (Kd.S_lt (rS_ HO_521001.out))) (Kd.S_lt (rS_ HO_535001.out))) (Zl hB_)); replace HO_521001 := Aside0.mk (Zs (Kd.S_told (Kd.S_told (Kd.S_old (rS_ HO_521001.out) hb) (Kd.S_base ho0)) (ZS ho1)) (fun _ h_ => h_.1)); replace HO_535001 := Aside0.mk (Zs (Kd.S_told (Kd.S_told (Kd.S_old (rS_ HO_535001.out) hb) (Kd.S_base ho0)) (ZS ho1)) (fun _ h_ => h_.1)); have HO546 := Aside0.mk (ZI ho1 (Zl hB_)); replace BK520 := Aside0.mk (Zc (g := gb520) (o := .cells #[.int .i64 t515, .slice Ao24 t516.length co24] 27 (0, 0)) (bk_ BK520.out) hb); replace BK534 := Aside0.mk (Zc (g := gb534) (o := .cells #[.int .i64 t526, .slice Ao34 t527.length co34] 27 (0, 0)) (bk_ BK534.out) hb); replace HB := Aside0.mk (Ze hB_ hb); (try clear hb); (try clear hb2); (try clear hk); (try clear hi); (try clear ho0); (try clear ho1)) | ((with_reducible refine ZD (N := 9) rfl ?_); (try (refine gate_guard (by rfl) ?_; dsimp only)); refine ZH ?hg (N := 9) ?hd (cs := #[.int .i64 0, .slice none 0 0]) (t := 27) ?hr ?_; (case hd => rfl); (case hg => rfl); (case hr => first | (go_simp; done) | (go_simp; rfl)); intro gb547 hg w137 hbox hb; replace HO_521001 := Aside0.mk (Zk (rS_ HO_521001.out) hb); replace HO_535001 := Aside0.mk (Zk (rS_ HO_535001.out) hb); replace HO543 := Aside0.mk (Zk (rS_ HO543.out) hb); replace HO546 := Aside0.mk (ZN (rR_ HO546.out) hb); have BK547 := Aside0.mk (hbox); have GW547 := Aside0.mk ((hz_ hg : w.heap.size ≤ gb547)); have GE547 := Aside0.mk ((hz_ hg : w.heap.size ≤ gb547)); replace HB := Aside0.mk (Ze hB_ hb); have NB520_547 := Aside0.mk ((by rw [hg]; exact Nat.ne_of_lt (blk_lt (g := gb520) (o := .cells #[.int .i64 t515, .slice Ao24 t516.length co24] 27 (0, 0)) (bk_ BK520.out)) : gb520 ≠ gb547)); have NB547_520 := Aside0.mk ((by rw [hg]; exact Nat.ne_of_gt (blk_lt (g := gb520) (o := .cells #[.int .i64 t515, .slice Ao24 t516.length co24] 27 (0, 0)) (bk_ BK520.out)) : gb547 ≠ gb520)); replace BK520 := Aside0.mk (Zc (g := gb520) (o := .cells #[.int .i64 t515, .slice Ao24 t516.length co24] 27 (0, 0)) (bk_ BK520.out) hb); have NB534_547 := Aside0.mk ((by rw [hg]; exact Nat.ne_of_lt (blk_lt (g := gb534) (o := .cells #[.int .i64 t526, .slice Ao34 t527.length co34] 27 (0, 0)) (bk_ BK534.out)) : gb534 ≠ gb547)); have NB547_534 := Aside0.mk ((by rw [hg]; exact Nat.ne_of_gt (blk_lt (g := gb534) (o := .cells #[.int .i64 t526, .slice Ao34 t527.length co34] 27 (0, 0)) (bk_ BK534.out)) : gb547 ≠ gb534)); replace BK534 := Aside0.mk (Zc (g := gb534) (o := .cells #[.int .i64 t526, .slice Ao34 t527.length co34] 27 (0, 0)) (bk_ BK534.out) hb); clear hb hbox hg; have hnb138 := NB547_520.out; have hnc138 := NB520_547.out; have hnb139 := NB547_534.out; have hnc139 := NB534_547.out; have hcz140_0 : w137.cell? ⟨gb547, 0, none⟩ = some (.int .i64 0) := (Za BK547.out 0).trans rfl; have hcz140_1 : w137.cell? ⟨gb547, 1, none⟩ = some (.slice none 0 0) := (Za BK547.out 1).trans rfl; have hfz140_0 := Zb BK547.out 0; have hfz140_1 := Zb BK547.out 1; obtain ⟨Ao141, co141, eo141⟩ := Kd.S_slice HO543.out; subst eo141; obtain ⟨Ao142, co142, eo142⟩ := ZP HO546.out; subst eo142) | ((with_reducible refine Zj (f := 37) rfl ?_); refine ZE (some 55) rfl rfl Try.func37 (by kernel_rfl) rfl #[.agg #[.int .i64 t540, .slice Ao141 t541.length co141], .slice Ao142 t544.length co142] rfl ar_ ?_; (with_reducible refine (impl_WinnerOf.calls kj19 t540 _ _ t541 _ _ t544 t548 _ ?side1 ?side2 ?side3 ?side4 A46.out).mono ?_); (case side1 => refine (Zu (e := 31) (base := w.heap.size) (ok := fun k_ => ((some k_ ≠ (.slice Ao142 t544.length co142 : Value).ownBlock ∧ some k_ ≠ (.slice Ao24 t516.length co24 : Value).ownBlock) ∧ some k_ ≠ (.slice Ao34 t527.length co34 : Value).ownBlock)) (n := t541.length) (c := co141) ?_).2.2; exact (by (with_reducible repeat (first | apply Zy | apply Zx | apply Zr)); exact (Zs (Zw (p := ⟨gb547, 1, none⟩) (Zw (p := ⟨gb547, 0, none⟩) (ZC HO543.out BK547.out (by decide)) (fun _ hk => hk.2) (.int .i64 t540)) (fun _ hk => hk.2) (.slice Ao141 t541.length co141)) (fun _ h_ => h_.1)))); (case side2 => exact (Zu HO543.out).2.1); (case side3 => refine (Zp (e := 3) (base := w.heap.size) (ok := fun k_ => True) (n := t544.length) (c := co142) ?_).2.2; exact (by (with_reducible repeat (first | apply Kd.R_alloc | apply Kd.R_drewN | apply ZR)); exact (Zz (Kd.R_far (p := ⟨gb547, 1, none⟩) (Kd.R_far (p := ⟨gb547, 0, none⟩) (Kd.R_types HO546.out BK547.out (by decide)) (fun _ hk => hk.2) (.int .i64 t540)) (fun _ hk => hk.2) (.slice Ao141 t541.length co141)) (fun _ h_ => h_.1)))); (case side4 => exact (Zp HO546.out).2.1); rintro e w143 ⟨rfl, hb⟩; refine ⟨_, rfl, ?_⟩; replace HO_521001 := Aside0.mk (Zk (by (with_reducible repeat (first | apply Zy | apply Zx | apply Zr)); exact (Zs (Zw (p := ⟨gb547, 1, none⟩) (Zw (p := ⟨gb547, 0, none⟩) (ZC HO_521001.out BK547.out (by decide)) (fun _ hk => hk.2) (.int .i64 t540)) (fun _ hk => hk.2) (.slice Ao141 t541.length co141)) (fun _ h_ => h_.1))) hb); replace HO_535001 := Aside0.mk (Zk (by (with_reducible repeat (first | apply Zy | apply Zx | apply Zr)); exact (Zs (Zw (p := ⟨gb547, 1, none⟩) (Zw (p := ⟨gb547, 0, none⟩) (ZC HO_535001.out BK547.out (by decide)) (fun _ hk => hk.2) (.int .i64 t540)) (fun _ hk => hk.2) (.slice Ao141 t541.length co141)) (fun _ h_ => h_.1))) hb); replace HO543 := Aside0.mk (Zk (by (with_reducible repeat (first | apply Zy | apply Zx | apply Zr)); exact (Zs (Zw (p := ⟨gb547, 1, none⟩) (Zw (p := ⟨gb547, 0, none⟩) (ZC HO543.out BK547.out (by decide)) (fun _ hk => hk.2) (.int .i64 t540)) (fun _ hk => hk.2) (.slice Ao141 t541.length co141)) (fun _ h_ => h_.1))) hb); replace HO546 := Aside0.mk (ZN (by (with_reducible repeat (first | apply Kd.R_alloc | apply Kd.R_drewN | apply ZR)); exact (Zz (Kd.R_far (p := ⟨gb547, 1, none⟩) (Kd.R_far (p := ⟨gb547, 0, none⟩) (Kd.R_types HO546.out BK547.out (by decide)) (fun _ hk => hk.2) (.int .i64 t540)) (fun _ hk => hk.2) (.slice Ao141 t541.length co141)) (fun _ h_ => h_.1))) hb); replace BK520 := Aside0.mk (Zc (g := gb520) (o := .cells #[.int .i64 t515, .slice Ao24 t516.length co24] 27 (0, 0)) (by (with_reducible repeat (first | refine Zg ?_ _ | refine Zd ?_ | refine Zf ?_ _)); refine ZK ?_ NB520_547.out _; (with_reducible repeat (first | refine Zg ?_ _ | refine Zd ?_ | refine Zf ?_ _)); refine ZK ?_ NB520_547.out _; (with_reducible repeat (first | refine Zg ?_ _ | refine Zd ?_ | refine Zf ?_ _)); exact BK520.out) hb); replace BK534 := Aside0.mk (Zc (g := gb534) (o := .cells #[.int .i64 t526, .slice Ao34 t527.length co34] 27 (0, 0)) (by (with_reducible repeat (first | refine Zg ?_ _ | refine Zd ?_ | refine Zf ?_ _)); refine ZK ?_ NB534_547.out _; (with_reducible repeat (first | refine Zg ?_ _ | refine Zd ?_ | refine Zf ?_ _)); refine ZK ?_ NB534_547.out _; (with_reducible repeat (first | refine Zg ?_ _ | refine Zd ?_ | refine Zf ?_ _)); exact BK534.out) hb); replace BK547 := Aside0.mk (Zc (g := gb547) (o := .cells #[.int .i64 t540, .slice Ao141 t541.length co141] 27 (0, 0)) (by (with_reducible repeat (first | refine Zg ?_ _ | refine Zd ?_ | refine Zf ?_ _)); refine ZT (cs := #[.int .i64 t540, .slice none 0 0]) ?_ 1 _ rfl; (with_reducible repeat (first | refine Zg ?_ _ | refine Zd ?_ | refine Zf ?_ _)); refine ZT (cs := #[.int .i64 0, .slice none 0 0]) ?_ 0 _ rfl; (with_reducible repeat (first | refine Zg ?_ _ | refine Zd ?_ | refine Zf ?_ _)); exact BK547.out) hb); replace HB := Aside0.mk (Ze hB_ hb); (try clear hb); (try clear hb2); (try clear hk); (try clear hi); have hcz144_0 : w143.cell? ⟨gb547, 0, none⟩ = some (.int .i64 t540) := (Za BK547.out 0).trans rfl; have hcz144_1 : w143.cell? ⟨gb547, 1, none⟩ = some (.slice Ao141 t541.length co141) := (Za BK547.out 1).trans rfl; have hfz144_0 := Zb BK547.out 0; have hfz144_1 := Zb BK547.out 1) | ((with_reducible refine Zj (f := 38) rfl ?_); refine ZE (some 60) rfl rfl Try.func38 (by kernel_rfl) rfl #[.agg #[.int .i64 t540, .slice Ao141 t541.length co141], .slice Ao142 t544.length co142] rfl ar_ ?_; (with_reducible refine (impl_IsLine.calls kj19 t540 _ _ t541 _ _ t544 t549 _ ?side1 ?side2 ?side3 ?side4 A47.out).mono ?_); (case side1 => repeat (first | exact (Zu HO543.out).2.2 | (with_reducible refine ZB ?_ _) | (with_reducible refine ZA ?_ _) | (with_reducible refine ZG ?_))); (case side2 => exact (Zu HO543.out).2.1); (case side3 => repeat (first | exact (Zp HO546.out).2.2 | (with_reducible refine ZB ?_ _) | (with_reducible refine ZA ?_ _) | (with_reducible refine ZG ?_))); (case side4 => exact (Zp HO546.out).2.1); rintro e w145 ⟨rfl, hb⟩; refine ⟨_, rfl, ?_⟩; replace HO_521001 := Aside0.mk (Zk (rS_ HO_521001.out) hb); replace HO_535001 := Aside0.mk (Zk (rS_ HO_535001.out) hb); replace HO543 := Aside0.mk (Zk (rS_ HO543.out) hb); replace HO546 := Aside0.mk (ZN (rR_ HO546.out) hb); replace BK520 := Aside0.mk (Zc (g := gb520) (o := .cells #[.int .i64 t515, .slice Ao24 t516.length co24] 27 (0, 0)) (bk_ BK520.out) hb); replace BK534 := Aside0.mk (Zc (g := gb534) (o := .cells #[.int .i64 t526, .slice Ao34 t527.length co34] 27 (0, 0)) (bk_ BK534.out) hb); replace BK547 := Aside0.mk (Zc (g := gb547) (o := .cells #[.int .i64 t540, .slice Ao141 t541.length co141] 27 (0, 0)) (bk_ BK547.out) hb); replace HB := Aside0.mk (Ze hB_ hb); (try clear hb); (try clear hb2); (try clear hk); (try clear hi); have hcz146_0 : w145.cell? ⟨gb547, 0, none⟩ = some (.int .i64 t540) := (Za BK547.out 0).trans rfl; have hcz146_1 : w145.cell? ⟨gb547, 1, none⟩ = some (.slice Ao141 t541.length co141) := (Za BK547.out 1).trans rfl; have hfz146_0 := Zb BK547.out 0; have hfz146_1 := Zb BK547.out 1) | (go_at_call 38; (with_reducible refine (impl_IsLine.calls kj19 t540 _ _ t541 _ _ t544 false _ ?side1 ?side2 ?side3 ?side4 A59.out).mono ?_); (case side1 => repeat (first | exact (Zu HO543.out).2.2 | (with_reducible refine ZB ?_ _) | (with_reducible refine ZA ?_ _) | (with_reducible refine ZG ?_))); (case side2 => exact (Zu HO543.out).2.1); (case side3 => repeat (first | exact (Zp HO546.out).2.2 | (with_reducible refine ZB ?_ _) | (with_reducible refine ZA ?_ _) | (with_reducible refine ZG ?_))); (case side4 => exact (Zp HO546.out).2.1); rintro e w147 ⟨rfl, hb⟩; replace HO_521001 := Aside0.mk (Zk (rS_ HO_521001.out) hb); replace HO_535001 := Aside0.mk (Zk (rS_ HO_535001.out) hb); replace HO543 := Aside0.mk (Zk (rS_ HO543.out) hb); replace HO546 := Aside0.mk (ZN (rR_ HO546.out) hb); replace BK520 := Aside0.mk (Zc (g := gb520) (o := .cells #[.int .i64 t515, .slice Ao24 t516.length co24] 27 (0, 0)) (bk_ BK520.out) hb); replace BK534 := Aside0.mk (Zc (g := gb534) (o := .cells #[.int .i64 t526, .slice Ao34 t527.length co34] 27 (0, 0)) (bk_ BK534.out) hb); replace BK547 := Aside0.mk (Zc (g := gb547) (o := .cells #[.int .i64 t540, .slice Ao141 t541.length co141] 27 (0, 0)) (bk_ BK547.out) hb); replace HB := Aside0.mk (Ze hB_ hb); (try clear hb); (try clear hb2); (try clear hk); (try clear hi)))
            replace HO_521001 := Aside0.mk (Zr HO_521001.out)
            replace HO_535001 := Aside0.mk (Zr HO_535001.out)
            replace HO543 := Aside0.mk (Zr HO543.out)
            replace HO546 := Aside0.mk (ZR HO546.out)
            replace BK520 := Aside0.mk (Zd BK520.out)
            replace BK534 := Aside0.mk (Zd BK534.out)
            replace BK547 := Aside0.mk (Zd BK547.out)
            replace HB := Aside0.mk (Zi HB.out)
            have p556 : 0 ≤ ((ji132) : Int) := of_decide_eq_true as_
            have q556 : (ji132) < (t544.length : Int) := of_decide_eq_true as_
            obtain ⟨ad556, e556, hx556_0⟩ := Zv (Zp HO546.out).2.2 (ji132) p556 q556
            cases e556
            replace p556 := eq_true p556
            replace q556 := eq_true q556
            refine start_ (n := 21) (S := fun w' => w'.cell? ⟨gb547, 0, none⟩ = some (.int .i64 t540) ∧ w'.cell? ⟨gb547, 1, none⟩ = some (.slice Ao141 t541.length co141) ∧ w'.cell? (ad556.add ((ji132)).toNat) = some (.int .i64 (rd t544 (ji132)))) (ds := []) #[O,O,O,O,O,O,O,O,O,O,O,O,O,O,O,O,O,O,O,O,O] (by kernel_rfl) rfl rfl ⟨(Za BK547.out 0).trans rfl, (Za BK547.out 1).trans rfl, hx556_0⟩ (fun hHeld => ?_); refine with_tabW laws_FnGames.tab14 laws_FnGames.bits14 (fun HT_ HW_ => ?_)
            generalize w147.drew = w148 at HO_521001 HO_535001 HO543 HO546 BK520 BK534 BK547 HB hx556_0 hHeld ⊢
            refine pu_ 0 74 #[Y,O,O,O,O,O,O,O,O,O,O,O,O,O,O,O,O,O,O,O,O] ?_
            refine pu_ 1 75 #[Y,Y,O,O,O,O,O,O,O,O,O,O,O,O,O,O,O,O,O,O,O] ?_
            refine pu_ 2 76 #[Y,Y,Y,O,O,O,O,O,O,O,O,O,O,O,O,O,O,O,O,O,O] ?_
            refine pu_ 3 77 #[Y,Y,Y,Y,O,O,O,O,O,O,O,O,O,O,O,O,O,O,O,O,O] ?_
            refine pu_ 4 78 #[Y,Y,Y,Y,Y,O,O,O,O,O,O,O,O,O,O,O,O,O,O,O,O] ?_
            refine pu_ 5 79 #[Y,Y,Y,Y,Y,Y,O,O,O,O,O,O,O,O,O,O,O,O,O,O,O] ?_
            refine pu_ 6 80 #[Y,Y,Y,Y,Y,Y,Y,O,O,O,O,O,O,O,O,O,O,O,O,O,O] ?_
            refine pu_ 7 81 #[Y,Y,Y,Y,Y,Y,Y,Y,O,O,O,O,O,O,O,O,O,O,O,O,O] ?_
            refine pu_ 9 83 #[Y,Y,Y,Y,Y,Y,Y,Y,O,Y,O,O,O,O,O,O,O,O,O,O,O] ?_
            refine pu_ 10 84 #[Y,Y,Y,Y,Y,Y,Y,Y,O,Y,Y,O,O,O,O,O,O,O,O,O,O] ?_
            refine pu_ 11 85 #[Y,Y,Y,Y,Y,Y,Y,Y,O,Y,Y,Y,O,O,O,O,O,O,O,O,O] ?_
            refine pu_ 12 86 #[Y,Y,Y,Y,Y,Y,Y,Y,O,Y,Y,Y,Y,O,O,O,O,O,O,O,O] ?_
            refine pu_ 13 87 #[Y,Y,Y,Y,Y,Y,Y,Y,O,Y,Y,Y,Y,Y,O,O,O,O,O,O,O] ?_
            refine tk3_ 8 82 #[Y,Y,Y,Y,Y,Y,Y,Y,Y,Y,Y,Y,Y,Y,O,O,O,O,O,O,O] hHeld ?_
            refine tk3_ 14 88 #[Y,Y,Y,Y,Y,Y,Y,Y,Y,Y,Y,Y,Y,Y,Y,O,O,O,O,O,O] hHeld ?_
            refine on_ 15 89 #[Y,Y,Y,Y,Y,Y,Y,Y,Y,Y,Y,Y,Y,Y,Y,Y,O,O,O,O,O] (fun K hK => ?_)
            refine goes_ Try.func40 (by kernel_rfl) rfl #[.agg #[.int .i64 t540, .slice Ao141 t541.length co141], .int .i64 (rd t544 (ji132))] (by rfl) rfl rfl (by (try simp only [List.map_toArray, List.map_cons, List.map_nil]); first | done | (simp only [hji132]; rfl) | rfl | (simp only [List.length_drop, List.length_take]; rfl)) ?_
            with_reducible refine (impl_AttackersOf.calls kj19 t540 _ _ t541 (rd t544 (ji132)) t557 _ ?side1 ?side2 A135.out).mono ?_
            (case side1 => repeat (first | exact (Zu HO543.out).2.2 | (with_reducible refine ZB ?_ _) | (with_reducible refine ZA ?_ _) | (with_reducible refine ZG ?_)))
            (case side2 => exact (Zu HO543.out).2.1)
            rintro e w149 ⟨v558, rfl, ho0, hb⟩
            have HS2_ := (hb.cell (World.block_lt_of_cell? _ _ (hHeld.2.2))).trans (hHeld.2.2)
            refine ⟨_, rfl, ?_⟩
            replace HO_521001 := Aside0.mk (Kd.S_elder' (rS_ HO_521001.out) (ZS ho0) hb)
            replace HO_535001 := Aside0.mk (Kd.S_elder' (rS_ HO_535001.out) (ZS ho0) hb)
            replace HO543 := Aside0.mk (Kd.S_elder' (rS_ HO543.out) (ZS ho0) hb)
            have HO559 := Aside0.mk (ZI (Kd.R_new' ho0 (Kd.R_lt (rR_ HO546.out))) (Zl hB_))
            replace HO546 := Aside0.mk (Kd.R_elder' (rR_ HO546.out) (ZS ho0) hb)
            replace BK520 := Aside0.mk (Zc (g := gb520) (o := .cells #[.int .i64 t515, .slice Ao24 t516.length co24] 27 (0, 0)) (bk_ BK520.out) hb)
            replace BK534 := Aside0.mk (Zc (g := gb534) (o := .cells #[.int .i64 t526, .slice Ao34 t527.length co34] 27 (0, 0)) (bk_ BK534.out) hb)
            replace BK547 := Aside0.mk (Zc (g := gb547) (o := .cells #[.int .i64 t540, .slice Ao141 t541.length co141] 27 (0, 0)) (bk_ BK547.out) hb)
            replace HB := Aside0.mk (Ze hB_ hb)
            (try clear hb)
            (try clear hb2)
            (try clear hk)
            (try clear hi)
            (try clear ho0)
            obtain ⟨Ao150, co150, eo150⟩ := ZP HO559.out
            (first | subst eo150 | (injection eo150 with f1_ f2_ f3_; have f4_ := f1_.symm; have f5_ := f3_.symm; clear f1_ f2_ f3_; subst f4_; subst f5_))
            refine hK.out _ _ ⟨(Za BK547.out 0).trans rfl, (Za BK547.out 1).trans rfl, HS2_⟩ (fun hHeld => ?_)
            clear hK K
            refine no_ 89 ?_
            refine pu_ 16 90 #[Y,Y,Y,Y,Y,Y,Y,Y,Y,Y,Y,Y,Y,Y,Y,Y,Y,O,O,O,O] ?_
            refine pu_ 17 91 #[Y,Y,Y,Y,Y,Y,Y,Y,Y,Y,Y,Y,Y,Y,Y,Y,Y,Y,O,O,O] ?_
            refine pu_ 18 92 #[Y,Y,Y,Y,Y,Y,Y,Y,Y,Y,Y,Y,Y,Y,Y,Y,Y,Y,Y,O,O] ?_
            refine pu_ 19 93 #[Y,Y,Y,Y,Y,Y,Y,Y,Y,Y,Y,Y,Y,Y,Y,Y,Y,Y,Y,Y,O] ?_
            refine pu_ 20 2 #[Y,Y,Y,Y,Y,Y,Y,Y,Y,Y,Y,Y,Y,Y,Y,Y,Y,Y,Y,Y,Y] ?_
            refine done_ (done_of HT_.out (by kernel_rfl)) ?_
            try go_wp2
            all_goals go_ret
            all_goals exact ⟨by first | rfl | (simp [errW_none, errW_some] <;> rfl) | (simp only [← hji132]; first | rfl | (simp [errW_none, errW_some] <;> rfl)) | (simp [*, errW_none, errW_some] <;> rfl), hB_⟩
           ·rw [if_neg c134] at H
            exact absurd H (by simp)
          ·rw [if_neg c133] at H
           exact absurd H (by simp)
         ·rw [if_neg c131] at H
          have c131b0 : (((t544.length : Int) % 2) == 1) = false := beq_eq_false_iff_ne.mpr c131
          have c131z : (Int.tmod (t544.length : Int) 2 == 1) = false := by (first | (rw [Int.tmod_eq_emod_of_nonneg (by omega)]; exact c131b0) | (rw [Int.tmod_eq_emod (by omega)]; exact c131b0) | (rw [Int.tmod_eq_emod]; simpa using c131b0))
          have c131b1 : (((t544.length : Int) % 2) != 1) = true := bne_iff_ne.mpr c131
          obtain rfl := Option.some.inj H
          try go_wp2_with (first | ((with_reducible refine Zj (f := 36) rfl ?_); refine ZE (some 50) rfl rfl Try.func36 (by kernel_rfl) rfl #[.slice A0 l0.length c0] rfl ar_ ?_; (with_reducible refine (spec_DrawWinnerOf.calls kj19 _ _ l0 t540 t541 t544 _ ?side1 ?side2 A45.out).mono ?_); (case side1 => exact cb_ HR0.out); (case side2 => exact HC0.out); rintro e w151 ⟨v542, v545, rfl, ho0, ho1, hb⟩; refine ⟨_, rfl, ?_⟩; have HO543 := Aside0.mk (Kd.S_lower (Kd.S_new' (Kd.S_new' ho0 (Kd.S_lt (rS_ HO_521001.out))) (Kd.S_lt (rS_ HO_535001.out))) (Zl hB_)); replace HO_521001 := Aside0.mk (Zs (Kd.S_told (Kd.S_told (Kd.S_old (rS_ HO_521001.out) hb) (Kd.S_base ho0)) (ZS ho1)) (fun _ h_ => h_.1)); replace HO_535001 := Aside0.mk (Zs (Kd.S_told (Kd.S_told (Kd.S_old (rS_ HO_535001.out) hb) (Kd.S_base ho0)) (ZS ho1)) (fun _ h_ => h_.1)); have HO546 := Aside0.mk (ZI ho1 (Zl hB_)); replace BK520 := Aside0.mk (Zc (g := gb520) (o := .cells #[.int .i64 t515, .slice Ao24 t516.length co24] 27 (0, 0)) (bk_ BK520.out) hb); replace BK534 := Aside0.mk (Zc (g := gb534) (o := .cells #[.int .i64 t526, .slice Ao34 t527.length co34] 27 (0, 0)) (bk_ BK534.out) hb); replace HB := Aside0.mk (Ze hB_ hb); (try clear hb); (try clear hb2); (try clear hk); (try clear hi); (try clear ho0); (try clear ho1)) | ((with_reducible refine ZD (N := 9) rfl ?_); (try (refine gate_guard (by rfl) ?_; dsimp only)); refine ZH ?hg (N := 9) ?hd (cs := #[.int .i64 0, .slice none 0 0]) (t := 27) ?hr ?_; (case hd => rfl); (case hg => rfl); (case hr => first | (go_simp; done) | (go_simp; rfl)); intro gb547 hg w152 hbox hb; replace HO_521001 := Aside0.mk (Zk (rS_ HO_521001.out) hb); replace HO_535001 := Aside0.mk (Zk (rS_ HO_535001.out) hb); replace HO543 := Aside0.mk (Zk (rS_ HO543.out) hb); replace HO546 := Aside0.mk (ZN (rR_ HO546.out) hb); have BK547 := Aside0.mk (hbox); have GW547 := Aside0.mk ((hz_ hg : w.heap.size ≤ gb547)); have GE547 := Aside0.mk ((hz_ hg : w.heap.size ≤ gb547)); replace HB := Aside0.mk (Ze hB_ hb); have NB520_547 := Aside0.mk ((by rw [hg]; exact Nat.ne_of_lt (blk_lt (g := gb520) (o := .cells #[.int .i64 t515, .slice Ao24 t516.length co24] 27 (0, 0)) (bk_ BK520.out)) : gb520 ≠ gb547)); have NB547_520 := Aside0.mk ((by rw [hg]; exact Nat.ne_of_gt (blk_lt (g := gb520) (o := .cells #[.int .i64 t515, .slice Ao24 t516.length co24] 27 (0, 0)) (bk_ BK520.out)) : gb547 ≠ gb520)); replace BK520 := Aside0.mk (Zc (g := gb520) (o := .cells #[.int .i64 t515, .slice Ao24 t516.length co24] 27 (0, 0)) (bk_ BK520.out) hb); have NB534_547 := Aside0.mk ((by rw [hg]; exact Nat.ne_of_lt (blk_lt (g := gb534) (o := .cells #[.int .i64 t526, .slice Ao34 t527.length co34] 27 (0, 0)) (bk_ BK534.out)) : gb534 ≠ gb547)); have NB547_534 := Aside0.mk ((by rw [hg]; exact Nat.ne_of_gt (blk_lt (g := gb534) (o := .cells #[.int .i64 t526, .slice Ao34 t527.length co34] 27 (0, 0)) (bk_ BK534.out)) : gb547 ≠ gb534)); replace BK534 := Aside0.mk (Zc (g := gb534) (o := .cells #[.int .i64 t526, .slice Ao34 t527.length co34] 27 (0, 0)) (bk_ BK534.out) hb); clear hb hbox hg; have hnb153 := NB547_520.out; have hnc153 := NB520_547.out; have hnb154 := NB547_534.out; have hnc154 := NB534_547.out; have hcz155_0 : w152.cell? ⟨gb547, 0, none⟩ = some (.int .i64 0) := (Za BK547.out 0).trans rfl; have hcz155_1 : w152.cell? ⟨gb547, 1, none⟩ = some (.slice none 0 0) := (Za BK547.out 1).trans rfl; have hfz155_0 := Zb BK547.out 0; have hfz155_1 := Zb BK547.out 1; obtain ⟨Ao156, co156, eo156⟩ := Kd.S_slice HO543.out; subst eo156; obtain ⟨Ao157, co157, eo157⟩ := ZP HO546.out; subst eo157) | ((with_reducible refine Zj (f := 37) rfl ?_); refine ZE (some 55) rfl rfl Try.func37 (by kernel_rfl) rfl #[.agg #[.int .i64 t540, .slice Ao156 t541.length co156], .slice Ao157 t544.length co157] rfl ar_ ?_; (with_reducible refine (impl_WinnerOf.calls kj19 t540 _ _ t541 _ _ t544 t548 _ ?side1 ?side2 ?side3 ?side4 A46.out).mono ?_); (case side1 => refine (Zu (e := 31) (base := w.heap.size) (ok := fun k_ => ((some k_ ≠ (.slice Ao157 t544.length co157 : Value).ownBlock ∧ some k_ ≠ (.slice Ao24 t516.length co24 : Value).ownBlock) ∧ some k_ ≠ (.slice Ao34 t527.length co34 : Value).ownBlock)) (n := t541.length) (c := co156) ?_).2.2; exact (by (with_reducible repeat (first | apply Zy | apply Zx | apply Zr)); exact (Zs (Zw (p := ⟨gb547, 1, none⟩) (Zw (p := ⟨gb547, 0, none⟩) (ZC HO543.out BK547.out (by decide)) (fun _ hk => hk.2) (.int .i64 t540)) (fun _ hk => hk.2) (.slice Ao156 t541.length co156)) (fun _ h_ => h_.1)))); (case side2 => exact (Zu HO543.out).2.1); (case side3 => refine (Zp (e := 3) (base := w.heap.size) (ok := fun k_ => True) (n := t544.length) (c := co157) ?_).2.2; exact (by (with_reducible repeat (first | apply Kd.R_alloc | apply Kd.R_drewN | apply ZR)); exact (Zz (Kd.R_far (p := ⟨gb547, 1, none⟩) (Kd.R_far (p := ⟨gb547, 0, none⟩) (Kd.R_types HO546.out BK547.out (by decide)) (fun _ hk => hk.2) (.int .i64 t540)) (fun _ hk => hk.2) (.slice Ao156 t541.length co156)) (fun _ h_ => h_.1)))); (case side4 => exact (Zp HO546.out).2.1); rintro e w158 ⟨rfl, hb⟩; refine ⟨_, rfl, ?_⟩; replace HO_521001 := Aside0.mk (Zk (by (with_reducible repeat (first | apply Zy | apply Zx | apply Zr)); exact (Zs (Zw (p := ⟨gb547, 1, none⟩) (Zw (p := ⟨gb547, 0, none⟩) (ZC HO_521001.out BK547.out (by decide)) (fun _ hk => hk.2) (.int .i64 t540)) (fun _ hk => hk.2) (.slice Ao156 t541.length co156)) (fun _ h_ => h_.1))) hb); replace HO_535001 := Aside0.mk (Zk (by (with_reducible repeat (first | apply Zy | apply Zx | apply Zr)); exact (Zs (Zw (p := ⟨gb547, 1, none⟩) (Zw (p := ⟨gb547, 0, none⟩) (ZC HO_535001.out BK547.out (by decide)) (fun _ hk => hk.2) (.int .i64 t540)) (fun _ hk => hk.2) (.slice Ao156 t541.length co156)) (fun _ h_ => h_.1))) hb); replace HO543 := Aside0.mk (Zk (by (with_reducible repeat (first | apply Zy | apply Zx | apply Zr)); exact (Zs (Zw (p := ⟨gb547, 1, none⟩) (Zw (p := ⟨gb547, 0, none⟩) (ZC HO543.out BK547.out (by decide)) (fun _ hk => hk.2) (.int .i64 t540)) (fun _ hk => hk.2) (.slice Ao156 t541.length co156)) (fun _ h_ => h_.1))) hb); replace HO546 := Aside0.mk (ZN (by (with_reducible repeat (first | apply Kd.R_alloc | apply Kd.R_drewN | apply ZR)); exact (Zz (Kd.R_far (p := ⟨gb547, 1, none⟩) (Kd.R_far (p := ⟨gb547, 0, none⟩) (Kd.R_types HO546.out BK547.out (by decide)) (fun _ hk => hk.2) (.int .i64 t540)) (fun _ hk => hk.2) (.slice Ao156 t541.length co156)) (fun _ h_ => h_.1))) hb); replace BK520 := Aside0.mk (Zc (g := gb520) (o := .cells #[.int .i64 t515, .slice Ao24 t516.length co24] 27 (0, 0)) (by (with_reducible repeat (first | refine Zg ?_ _ | refine Zd ?_ | refine Zf ?_ _)); refine ZK ?_ NB520_547.out _; (with_reducible repeat (first | refine Zg ?_ _ | refine Zd ?_ | refine Zf ?_ _)); refine ZK ?_ NB520_547.out _; (with_reducible repeat (first | refine Zg ?_ _ | refine Zd ?_ | refine Zf ?_ _)); exact BK520.out) hb); replace BK534 := Aside0.mk (Zc (g := gb534) (o := .cells #[.int .i64 t526, .slice Ao34 t527.length co34] 27 (0, 0)) (by (with_reducible repeat (first | refine Zg ?_ _ | refine Zd ?_ | refine Zf ?_ _)); refine ZK ?_ NB534_547.out _; (with_reducible repeat (first | refine Zg ?_ _ | refine Zd ?_ | refine Zf ?_ _)); refine ZK ?_ NB534_547.out _; (with_reducible repeat (first | refine Zg ?_ _ | refine Zd ?_ | refine Zf ?_ _)); exact BK534.out) hb); replace BK547 := Aside0.mk (Zc (g := gb547) (o := .cells #[.int .i64 t540, .slice Ao156 t541.length co156] 27 (0, 0)) (by (with_reducible repeat (first | refine Zg ?_ _ | refine Zd ?_ | refine Zf ?_ _)); refine ZT (cs := #[.int .i64 t540, .slice none 0 0]) ?_ 1 _ rfl; (with_reducible repeat (first | refine Zg ?_ _ | refine Zd ?_ | refine Zf ?_ _)); refine ZT (cs := #[.int .i64 0, .slice none 0 0]) ?_ 0 _ rfl; (with_reducible repeat (first | refine Zg ?_ _ | refine Zd ?_ | refine Zf ?_ _)); exact BK547.out) hb); replace HB := Aside0.mk (Ze hB_ hb); (try clear hb); (try clear hb2); (try clear hk); (try clear hi); have hcz159_0 : w158.cell? ⟨gb547, 0, none⟩ = some (.int .i64 t540) := (Za BK547.out 0).trans rfl; have hcz159_1 : w158.cell? ⟨gb547, 1, none⟩ = some (.slice Ao156 t541.length co156) := (Za BK547.out 1).trans rfl; have hfz159_0 := Zb BK547.out 0; have hfz159_1 := Zb BK547.out 1) | ((with_reducible refine Zj (f := 38) rfl ?_); refine ZE (some 60) rfl rfl Try.func38 (by kernel_rfl) rfl #[.agg #[.int .i64 t540, .slice Ao156 t541.length co156], .slice Ao157 t544.length co157] rfl ar_ ?_; (with_reducible refine (impl_IsLine.calls kj19 t540 _ _ t541 _ _ t544 t549 _ ?side1 ?side2 ?side3 ?side4 A47.out).mono ?_); (case side1 => repeat (first | exact (Zu HO543.out).2.2 | (with_reducible refine ZB ?_ _) | (with_reducible refine ZA ?_ _) | (with_reducible refine ZG ?_))); (case side2 => exact (Zu HO543.out).2.1); (case side3 => repeat (first | exact (Zp HO546.out).2.2 | (with_reducible refine ZB ?_ _) | (with_reducible refine ZA ?_ _) | (with_reducible refine ZG ?_))); (case side4 => exact (Zp HO546.out).2.1); rintro e w160 ⟨rfl, hb⟩; refine ⟨_, rfl, ?_⟩; replace HO_521001 := Aside0.mk (Zk (rS_ HO_521001.out) hb); replace HO_535001 := Aside0.mk (Zk (rS_ HO_535001.out) hb); replace HO543 := Aside0.mk (Zk (rS_ HO543.out) hb); replace HO546 := Aside0.mk (ZN (rR_ HO546.out) hb); replace BK520 := Aside0.mk (Zc (g := gb520) (o := .cells #[.int .i64 t515, .slice Ao24 t516.length co24] 27 (0, 0)) (bk_ BK520.out) hb); replace BK534 := Aside0.mk (Zc (g := gb534) (o := .cells #[.int .i64 t526, .slice Ao34 t527.length co34] 27 (0, 0)) (bk_ BK534.out) hb); replace BK547 := Aside0.mk (Zc (g := gb547) (o := .cells #[.int .i64 t540, .slice Ao156 t541.length co156] 27 (0, 0)) (bk_ BK547.out) hb); replace HB := Aside0.mk (Ze hB_ hb); (try clear hb); (try clear hb2); (try clear hk); (try clear hi); have hcz161_0 : w160.cell? ⟨gb547, 0, none⟩ = some (.int .i64 t540) := (Za BK547.out 0).trans rfl; have hcz161_1 : w160.cell? ⟨gb547, 1, none⟩ = some (.slice Ao156 t541.length co156) := (Za BK547.out 1).trans rfl; have hfz161_0 := Zb BK547.out 0; have hfz161_1 := Zb BK547.out 1) | (go_at_call 38; (with_reducible refine (impl_IsLine.calls kj19 t540 _ _ t541 _ _ t544 false _ ?side1 ?side2 ?side3 ?side4 A59.out).mono ?_); (case side1 => repeat (first | exact (Zu HO543.out).2.2 | (with_reducible refine ZB ?_ _) | (with_reducible refine ZA ?_ _) | (with_reducible refine ZG ?_))); (case side2 => exact (Zu HO543.out).2.1); (case side3 => repeat (first | exact (Zp HO546.out).2.2 | (with_reducible refine ZB ?_ _) | (with_reducible refine ZA ?_ _) | (with_reducible refine ZG ?_))); (case side4 => exact (Zp HO546.out).2.1); rintro e w162 ⟨rfl, hb⟩; replace HO_521001 := Aside0.mk (Zk (rS_ HO_521001.out) hb); replace HO_535001 := Aside0.mk (Zk (rS_ HO_535001.out) hb); replace HO543 := Aside0.mk (Zk (rS_ HO543.out) hb); replace HO546 := Aside0.mk (ZN (rR_ HO546.out) hb); replace BK520 := Aside0.mk (Zc (g := gb520) (o := .cells #[.int .i64 t515, .slice Ao24 t516.length co24] 27 (0, 0)) (bk_ BK520.out) hb); replace BK534 := Aside0.mk (Zc (g := gb534) (o := .cells #[.int .i64 t526, .slice Ao34 t527.length co34] 27 (0, 0)) (bk_ BK534.out) hb); replace BK547 := Aside0.mk (Zc (g := gb547) (o := .cells #[.int .i64 t540, .slice Ao156 t541.length co156] 27 (0, 0)) (bk_ BK547.out) hb); replace HB := Aside0.mk (Ze hB_ hb); (try clear hb); (try clear hb2); (try clear hk); (try clear hi)))
          replace HO_521001 := Aside0.mk (Zr HO_521001.out)
          replace HO_535001 := Aside0.mk (Zr HO_535001.out)
          replace HO543 := Aside0.mk (Zr HO543.out)
          replace HO546 := Aside0.mk (ZR HO546.out)
          replace BK520 := Aside0.mk (Zd BK520.out)
          replace BK534 := Aside0.mk (Zd BK534.out)
          replace BK547 := Aside0.mk (Zd BK547.out)
          replace HB := Aside0.mk (Zi HB.out)
          refine start_ (n := 21) (S := fun w' => True) (ds := []) #[O,O,O,O,O,O,O,O,O,O,O,O,O,O,O,O,O,O,O,O,O] (by kernel_rfl) rfl rfl trivial (fun hHeld => ?_); refine with_tabW laws_FnGames.tab14 laws_FnGames.bits14 (fun HT_ HW_ => ?_)
          generalize w162.drew = w163 at HO_521001 HO_535001 HO543 HO546 BK520 BK534 BK547 HB hHeld ⊢
          refine pu_ 0 74 #[Y,O,O,O,O,O,O,O,O,O,O,O,O,O,O,O,O,O,O,O,O] ?_
          refine pu_ 1 75 #[Y,Y,O,O,O,O,O,O,O,O,O,O,O,O,O,O,O,O,O,O,O] ?_
          refine pu_ 2 76 #[Y,Y,Y,O,O,O,O,O,O,O,O,O,O,O,O,O,O,O,O,O,O] ?_
          refine pu_ 3 77 #[Y,Y,Y,Y,O,O,O,O,O,O,O,O,O,O,O,O,O,O,O,O,O] ?_
          refine pu_ 4 78 #[Y,Y,Y,Y,Y,O,O,O,O,O,O,O,O,O,O,O,O,O,O,O,O] ?_
          refine pu_ 5 79 #[Y,Y,Y,Y,Y,Y,O,O,O,O,O,O,O,O,O,O,O,O,O,O,O] ?_
          refine pu_ 6 80 #[Y,Y,Y,Y,Y,Y,Y,O,O,O,O,O,O,O,O,O,O,O,O,O,O] ?_
          refine pu_ 7 81 #[Y,Y,Y,Y,Y,Y,Y,Y,O,O,O,O,O,O,O,O,O,O,O,O,O] ?_
          refine pn_ 8 82 #[Y,Y,Y,Y,Y,Y,Y,Y,Y,O,O,O,O,O,O,O,O,O,O,O,O] ?_
          refine pn_ 9 83 #[Y,Y,Y,Y,Y,Y,Y,Y,Y,Y,O,O,O,O,O,O,O,O,O,O,O] ?_
          refine pn_ 10 84 #[Y,Y,Y,Y,Y,Y,Y,Y,Y,Y,Y,O,O,O,O,O,O,O,O,O,O] ?_
          refine pn_ 11 85 #[Y,Y,Y,Y,Y,Y,Y,Y,Y,Y,Y,Y,O,O,O,O,O,O,O,O,O] ?_
          refine pn_ 12 86 #[Y,Y,Y,Y,Y,Y,Y,Y,Y,Y,Y,Y,Y,O,O,O,O,O,O,O,O] ?_
          refine pn_ 13 87 #[Y,Y,Y,Y,Y,Y,Y,Y,Y,Y,Y,Y,Y,Y,O,O,O,O,O,O,O] ?_
          refine pn_ 14 88 #[Y,Y,Y,Y,Y,Y,Y,Y,Y,Y,Y,Y,Y,Y,Y,O,O,O,O,O,O] ?_
          refine pn_ 15 89 #[Y,Y,Y,Y,Y,Y,Y,Y,Y,Y,Y,Y,Y,Y,Y,Y,O,O,O,O,O] ?_
          refine pn_ 16 90 #[Y,Y,Y,Y,Y,Y,Y,Y,Y,Y,Y,Y,Y,Y,Y,Y,Y,O,O,O,O] ?_
          refine pn_ 17 91 #[Y,Y,Y,Y,Y,Y,Y,Y,Y,Y,Y,Y,Y,Y,Y,Y,Y,Y,O,O,O] ?_
          refine pu_ 18 92 #[Y,Y,Y,Y,Y,Y,Y,Y,Y,Y,Y,Y,Y,Y,Y,Y,Y,Y,Y,O,O] ?_
          refine pu_ 19 93 #[Y,Y,Y,Y,Y,Y,Y,Y,Y,Y,Y,Y,Y,Y,Y,Y,Y,Y,Y,Y,O] ?_
          refine pu_ 20 2 #[Y,Y,Y,Y,Y,Y,Y,Y,Y,Y,Y,Y,Y,Y,Y,Y,Y,Y,Y,Y,Y] ?_
          refine done_ (done_of HT_.out (by kernel_rfl)) ?_
          try go_wp2
          all_goals go_ret
          all_goals exact ⟨er_, hB_⟩
        ·rw [if_neg c130] at H
         have c130b0 : (t548.toList == ([102, 105, 114, 115, 116] : List UInt8)) = false := beq_eq_false_iff_ne.mpr c130
         have c130b1 : (t548.toList != ([102, 105, 114, 115, 116] : List UInt8)) = true := bne_iff_ne.mpr c130
         obtain rfl := Option.some.inj H
         try go_wp2_with (first | ((with_reducible refine Zj (f := 36) rfl ?_); refine ZE (some 50) rfl rfl Try.func36 (by kernel_rfl) rfl #[.slice A0 l0.length c0] rfl ar_ ?_; (with_reducible refine (spec_DrawWinnerOf.calls kj19 _ _ l0 t540 t541 t544 _ ?side1 ?side2 A45.out).mono ?_); (case side1 => exact cb_ HR0.out); (case side2 => exact HC0.out); rintro e w164 ⟨v542, v545, rfl, ho0, ho1, hb⟩; refine ⟨_, rfl, ?_⟩; have HO543 := Aside0.mk (Kd.S_lower (Kd.S_new' (Kd.S_new' ho0 (Kd.S_lt (rS_ HO_521001.out))) (Kd.S_lt (rS_ HO_535001.out))) (Zl hB_)); replace HO_521001 := Aside0.mk (Zs (Kd.S_told (Kd.S_told (Kd.S_old (rS_ HO_521001.out) hb) (Kd.S_base ho0)) (ZS ho1)) (fun _ h_ => h_.1)); replace HO_535001 := Aside0.mk (Zs (Kd.S_told (Kd.S_told (Kd.S_old (rS_ HO_535001.out) hb) (Kd.S_base ho0)) (ZS ho1)) (fun _ h_ => h_.1)); have HO546 := Aside0.mk (ZI ho1 (Zl hB_)); replace BK520 := Aside0.mk (Zc (g := gb520) (o := .cells #[.int .i64 t515, .slice Ao24 t516.length co24] 27 (0, 0)) (bk_ BK520.out) hb); replace BK534 := Aside0.mk (Zc (g := gb534) (o := .cells #[.int .i64 t526, .slice Ao34 t527.length co34] 27 (0, 0)) (bk_ BK534.out) hb); replace HB := Aside0.mk (Ze hB_ hb); (try clear hb); (try clear hb2); (try clear hk); (try clear hi); (try clear ho0); (try clear ho1)) | ((with_reducible refine ZD (N := 9) rfl ?_); (try (refine gate_guard (by rfl) ?_; dsimp only)); refine ZH ?hg (N := 9) ?hd (cs := #[.int .i64 0, .slice none 0 0]) (t := 27) ?hr ?_; (case hd => rfl); (case hg => rfl); (case hr => first | (go_simp; done) | (go_simp; rfl)); intro gb547 hg w165 hbox hb; replace HO_521001 := Aside0.mk (Zk (rS_ HO_521001.out) hb); replace HO_535001 := Aside0.mk (Zk (rS_ HO_535001.out) hb); replace HO543 := Aside0.mk (Zk (rS_ HO543.out) hb); replace HO546 := Aside0.mk (ZN (rR_ HO546.out) hb); have BK547 := Aside0.mk (hbox); have GW547 := Aside0.mk ((hz_ hg : w.heap.size ≤ gb547)); have GE547 := Aside0.mk ((hz_ hg : w.heap.size ≤ gb547)); replace HB := Aside0.mk (Ze hB_ hb); have NB520_547 := Aside0.mk ((by rw [hg]; exact Nat.ne_of_lt (blk_lt (g := gb520) (o := .cells #[.int .i64 t515, .slice Ao24 t516.length co24] 27 (0, 0)) (bk_ BK520.out)) : gb520 ≠ gb547)); have NB547_520 := Aside0.mk ((by rw [hg]; exact Nat.ne_of_gt (blk_lt (g := gb520) (o := .cells #[.int .i64 t515, .slice Ao24 t516.length co24] 27 (0, 0)) (bk_ BK520.out)) : gb547 ≠ gb520)); replace BK520 := Aside0.mk (Zc (g := gb520) (o := .cells #[.int .i64 t515, .slice Ao24 t516.length co24] 27 (0, 0)) (bk_ BK520.out) hb); have NB534_547 := Aside0.mk ((by rw [hg]; exact Nat.ne_of_lt (blk_lt (g := gb534) (o := .cells #[.int .i64 t526, .slice Ao34 t527.length co34] 27 (0, 0)) (bk_ BK534.out)) : gb534 ≠ gb547)); have NB547_534 := Aside0.mk ((by rw [hg]; exact Nat.ne_of_gt (blk_lt (g := gb534) (o := .cells #[.int .i64 t526, .slice Ao34 t527.length co34] 27 (0, 0)) (bk_ BK534.out)) : gb547 ≠ gb534)); replace BK534 := Aside0.mk (Zc (g := gb534) (o := .cells #[.int .i64 t526, .slice Ao34 t527.length co34] 27 (0, 0)) (bk_ BK534.out) hb); clear hb hbox hg; have hnb166 := NB547_520.out; have hnc166 := NB520_547.out; have hnb167 := NB547_534.out; have hnc167 := NB534_547.out; have hcz168_0 : w165.cell? ⟨gb547, 0, none⟩ = some (.int .i64 0) := (Za BK547.out 0).trans rfl; have hcz168_1 : w165.cell? ⟨gb547, 1, none⟩ = some (.slice none 0 0) := (Za BK547.out 1).trans rfl; have hfz168_0 := Zb BK547.out 0; have hfz168_1 := Zb BK547.out 1; obtain ⟨Ao169, co169, eo169⟩ := Kd.S_slice HO543.out; subst eo169; obtain ⟨Ao170, co170, eo170⟩ := ZP HO546.out; subst eo170) | ((with_reducible refine Zj (f := 37) rfl ?_); refine ZE (some 55) rfl rfl Try.func37 (by kernel_rfl) rfl #[.agg #[.int .i64 t540, .slice Ao169 t541.length co169], .slice Ao170 t544.length co170] rfl ar_ ?_; (with_reducible refine (impl_WinnerOf.calls kj19 t540 _ _ t541 _ _ t544 t548 _ ?side1 ?side2 ?side3 ?side4 A46.out).mono ?_); (case side1 => refine (Zu (e := 31) (base := w.heap.size) (ok := fun k_ => ((some k_ ≠ (.slice Ao170 t544.length co170 : Value).ownBlock ∧ some k_ ≠ (.slice Ao24 t516.length co24 : Value).ownBlock) ∧ some k_ ≠ (.slice Ao34 t527.length co34 : Value).ownBlock)) (n := t541.length) (c := co169) ?_).2.2; exact (by (with_reducible repeat (first | apply Zy | apply Zx | apply Zr)); exact (Zs (Zw (p := ⟨gb547, 1, none⟩) (Zw (p := ⟨gb547, 0, none⟩) (ZC HO543.out BK547.out (by decide)) (fun _ hk => hk.2) (.int .i64 t540)) (fun _ hk => hk.2) (.slice Ao169 t541.length co169)) (fun _ h_ => h_.1)))); (case side2 => exact (Zu HO543.out).2.1); (case side3 => refine (Zp (e := 3) (base := w.heap.size) (ok := fun k_ => True) (n := t544.length) (c := co170) ?_).2.2; exact (by (with_reducible repeat (first | apply Kd.R_alloc | apply Kd.R_drewN | apply ZR)); exact (Zz (Kd.R_far (p := ⟨gb547, 1, none⟩) (Kd.R_far (p := ⟨gb547, 0, none⟩) (Kd.R_types HO546.out BK547.out (by decide)) (fun _ hk => hk.2) (.int .i64 t540)) (fun _ hk => hk.2) (.slice Ao169 t541.length co169)) (fun _ h_ => h_.1)))); (case side4 => exact (Zp HO546.out).2.1); rintro e w171 ⟨rfl, hb⟩; refine ⟨_, rfl, ?_⟩; replace HO_521001 := Aside0.mk (Zk (by (with_reducible repeat (first | apply Zy | apply Zx | apply Zr)); exact (Zs (Zw (p := ⟨gb547, 1, none⟩) (Zw (p := ⟨gb547, 0, none⟩) (ZC HO_521001.out BK547.out (by decide)) (fun _ hk => hk.2) (.int .i64 t540)) (fun _ hk => hk.2) (.slice Ao169 t541.length co169)) (fun _ h_ => h_.1))) hb); replace HO_535001 := Aside0.mk (Zk (by (with_reducible repeat (first | apply Zy | apply Zx | apply Zr)); exact (Zs (Zw (p := ⟨gb547, 1, none⟩) (Zw (p := ⟨gb547, 0, none⟩) (ZC HO_535001.out BK547.out (by decide)) (fun _ hk => hk.2) (.int .i64 t540)) (fun _ hk => hk.2) (.slice Ao169 t541.length co169)) (fun _ h_ => h_.1))) hb); replace HO543 := Aside0.mk (Zk (by (with_reducible repeat (first | apply Zy | apply Zx | apply Zr)); exact (Zs (Zw (p := ⟨gb547, 1, none⟩) (Zw (p := ⟨gb547, 0, none⟩) (ZC HO543.out BK547.out (by decide)) (fun _ hk => hk.2) (.int .i64 t540)) (fun _ hk => hk.2) (.slice Ao169 t541.length co169)) (fun _ h_ => h_.1))) hb); replace HO546 := Aside0.mk (ZN (by (with_reducible repeat (first | apply Kd.R_alloc | apply Kd.R_drewN | apply ZR)); exact (Zz (Kd.R_far (p := ⟨gb547, 1, none⟩) (Kd.R_far (p := ⟨gb547, 0, none⟩) (Kd.R_types HO546.out BK547.out (by decide)) (fun _ hk => hk.2) (.int .i64 t540)) (fun _ hk => hk.2) (.slice Ao169 t541.length co169)) (fun _ h_ => h_.1))) hb); replace BK520 := Aside0.mk (Zc (g := gb520) (o := .cells #[.int .i64 t515, .slice Ao24 t516.length co24] 27 (0, 0)) (by (with_reducible repeat (first | refine Zg ?_ _ | refine Zd ?_ | refine Zf ?_ _)); refine ZK ?_ NB520_547.out _; (with_reducible repeat (first | refine Zg ?_ _ | refine Zd ?_ | refine Zf ?_ _)); refine ZK ?_ NB520_547.out _; (with_reducible repeat (first | refine Zg ?_ _ | refine Zd ?_ | refine Zf ?_ _)); exact BK520.out) hb); replace BK534 := Aside0.mk (Zc (g := gb534) (o := .cells #[.int .i64 t526, .slice Ao34 t527.length co34] 27 (0, 0)) (by (with_reducible repeat (first | refine Zg ?_ _ | refine Zd ?_ | refine Zf ?_ _)); refine ZK ?_ NB534_547.out _; (with_reducible repeat (first | refine Zg ?_ _ | refine Zd ?_ | refine Zf ?_ _)); refine ZK ?_ NB534_547.out _; (with_reducible repeat (first | refine Zg ?_ _ | refine Zd ?_ | refine Zf ?_ _)); exact BK534.out) hb); replace BK547 := Aside0.mk (Zc (g := gb547) (o := .cells #[.int .i64 t540, .slice Ao169 t541.length co169] 27 (0, 0)) (by (with_reducible repeat (first | refine Zg ?_ _ | refine Zd ?_ | refine Zf ?_ _)); refine ZT (cs := #[.int .i64 t540, .slice none 0 0]) ?_ 1 _ rfl; (with_reducible repeat (first | refine Zg ?_ _ | refine Zd ?_ | refine Zf ?_ _)); refine ZT (cs := #[.int .i64 0, .slice none 0 0]) ?_ 0 _ rfl; (with_reducible repeat (first | refine Zg ?_ _ | refine Zd ?_ | refine Zf ?_ _)); exact BK547.out) hb); replace HB := Aside0.mk (Ze hB_ hb); (try clear hb); (try clear hb2); (try clear hk); (try clear hi); have hcz172_0 : w171.cell? ⟨gb547, 0, none⟩ = some (.int .i64 t540) := (Za BK547.out 0).trans rfl; have hcz172_1 : w171.cell? ⟨gb547, 1, none⟩ = some (.slice Ao169 t541.length co169) := (Za BK547.out 1).trans rfl; have hfz172_0 := Zb BK547.out 0; have hfz172_1 := Zb BK547.out 1) | ((with_reducible refine Zj (f := 38) rfl ?_); refine ZE (some 60) rfl rfl Try.func38 (by kernel_rfl) rfl #[.agg #[.int .i64 t540, .slice Ao169 t541.length co169], .slice Ao170 t544.length co170] rfl ar_ ?_; (with_reducible refine (impl_IsLine.calls kj19 t540 _ _ t541 _ _ t544 t549 _ ?side1 ?side2 ?side3 ?side4 A47.out).mono ?_); (case side1 => repeat (first | exact (Zu HO543.out).2.2 | (with_reducible refine ZB ?_ _) | (with_reducible refine ZA ?_ _) | (with_reducible refine ZG ?_))); (case side2 => exact (Zu HO543.out).2.1); (case side3 => repeat (first | exact (Zp HO546.out).2.2 | (with_reducible refine ZB ?_ _) | (with_reducible refine ZA ?_ _) | (with_reducible refine ZG ?_))); (case side4 => exact (Zp HO546.out).2.1); rintro e w173 ⟨rfl, hb⟩; refine ⟨_, rfl, ?_⟩; replace HO_521001 := Aside0.mk (Zk (rS_ HO_521001.out) hb); replace HO_535001 := Aside0.mk (Zk (rS_ HO_535001.out) hb); replace HO543 := Aside0.mk (Zk (rS_ HO543.out) hb); replace HO546 := Aside0.mk (ZN (rR_ HO546.out) hb); replace BK520 := Aside0.mk (Zc (g := gb520) (o := .cells #[.int .i64 t515, .slice Ao24 t516.length co24] 27 (0, 0)) (bk_ BK520.out) hb); replace BK534 := Aside0.mk (Zc (g := gb534) (o := .cells #[.int .i64 t526, .slice Ao34 t527.length co34] 27 (0, 0)) (bk_ BK534.out) hb); replace BK547 := Aside0.mk (Zc (g := gb547) (o := .cells #[.int .i64 t540, .slice Ao169 t541.length co169] 27 (0, 0)) (bk_ BK547.out) hb); replace HB := Aside0.mk (Ze hB_ hb); (try clear hb); (try clear hb2); (try clear hk); (try clear hi); have hcz174_0 : w173.cell? ⟨gb547, 0, none⟩ = some (.int .i64 t540) := (Za BK547.out 0).trans rfl; have hcz174_1 : w173.cell? ⟨gb547, 1, none⟩ = some (.slice Ao169 t541.length co169) := (Za BK547.out 1).trans rfl; have hfz174_0 := Zb BK547.out 0; have hfz174_1 := Zb BK547.out 1) | (go_at_call 38; (with_reducible refine (impl_IsLine.calls kj19 t540 _ _ t541 _ _ t544 false _ ?side1 ?side2 ?side3 ?side4 A59.out).mono ?_); (case side1 => repeat (first | exact (Zu HO543.out).2.2 | (with_reducible refine ZB ?_ _) | (with_reducible refine ZA ?_ _) | (with_reducible refine ZG ?_))); (case side2 => exact (Zu HO543.out).2.1); (case side3 => repeat (first | exact (Zp HO546.out).2.2 | (with_reducible refine ZB ?_ _) | (with_reducible refine ZA ?_ _) | (with_reducible refine ZG ?_))); (case side4 => exact (Zp HO546.out).2.1); rintro e w175 ⟨rfl, hb⟩; replace HO_521001 := Aside0.mk (Zk (rS_ HO_521001.out) hb); replace HO_535001 := Aside0.mk (Zk (rS_ HO_535001.out) hb); replace HO543 := Aside0.mk (Zk (rS_ HO543.out) hb); replace HO546 := Aside0.mk (ZN (rR_ HO546.out) hb); replace BK520 := Aside0.mk (Zc (g := gb520) (o := .cells #[.int .i64 t515, .slice Ao24 t516.length co24] 27 (0, 0)) (bk_ BK520.out) hb); replace BK534 := Aside0.mk (Zc (g := gb534) (o := .cells #[.int .i64 t526, .slice Ao34 t527.length co34] 27 (0, 0)) (bk_ BK534.out) hb); replace BK547 := Aside0.mk (Zc (g := gb547) (o := .cells #[.int .i64 t540, .slice Ao169 t541.length co169] 27 (0, 0)) (bk_ BK547.out) hb); replace HB := Aside0.mk (Ze hB_ hb); (try clear hb); (try clear hb2); (try clear hk); (try clear hi)))
         replace HO_521001 := Aside0.mk (Zr HO_521001.out)
         replace HO_535001 := Aside0.mk (Zr HO_535001.out)
         replace HO543 := Aside0.mk (Zr HO543.out)
         replace HO546 := Aside0.mk (ZR HO546.out)
         replace BK520 := Aside0.mk (Zd BK520.out)
         replace BK534 := Aside0.mk (Zd BK534.out)
         replace BK547 := Aside0.mk (Zd BK547.out)
         replace HB := Aside0.mk (Zi HB.out)
         refine start_ (n := 21) (S := fun w' => True) (ds := []) #[O,O,O,O,O,O,O,O,O,O,O,O,O,O,O,O,O,O,O,O,O] (by kernel_rfl) rfl rfl trivial (fun hHeld => ?_); refine with_tabW laws_FnGames.tab14 laws_FnGames.bits14 (fun HT_ HW_ => ?_)
         generalize w175.drew = w176 at HO_521001 HO_535001 HO543 HO546 BK520 BK534 BK547 HB hHeld ⊢
         refine pu_ 0 74 #[Y,O,O,O,O,O,O,O,O,O,O,O,O,O,O,O,O,O,O,O,O] ?_
         refine pu_ 1 75 #[Y,Y,O,O,O,O,O,O,O,O,O,O,O,O,O,O,O,O,O,O,O] ?_
         refine pu_ 2 76 #[Y,Y,Y,O,O,O,O,O,O,O,O,O,O,O,O,O,O,O,O,O,O] ?_
         refine pn_ 3 77 #[Y,Y,Y,Y,O,O,O,O,O,O,O,O,O,O,O,O,O,O,O,O,O] ?_
         refine pn_ 4 78 #[Y,Y,Y,Y,Y,O,O,O,O,O,O,O,O,O,O,O,O,O,O,O,O] ?_
         refine pn_ 5 79 #[Y,Y,Y,Y,Y,Y,O,O,O,O,O,O,O,O,O,O,O,O,O,O,O] ?_
         refine pn_ 6 80 #[Y,Y,Y,Y,Y,Y,Y,O,O,O,O,O,O,O,O,O,O,O,O,O,O] ?_
         refine pn_ 7 81 #[Y,Y,Y,Y,Y,Y,Y,Y,O,O,O,O,O,O,O,O,O,O,O,O,O] ?_
         refine pn_ 8 82 #[Y,Y,Y,Y,Y,Y,Y,Y,Y,O,O,O,O,O,O,O,O,O,O,O,O] ?_
         refine pn_ 9 83 #[Y,Y,Y,Y,Y,Y,Y,Y,Y,Y,O,O,O,O,O,O,O,O,O,O,O] ?_
         refine pn_ 10 84 #[Y,Y,Y,Y,Y,Y,Y,Y,Y,Y,Y,O,O,O,O,O,O,O,O,O,O] ?_
         refine pn_ 11 85 #[Y,Y,Y,Y,Y,Y,Y,Y,Y,Y,Y,Y,O,O,O,O,O,O,O,O,O] ?_
         refine pn_ 12 86 #[Y,Y,Y,Y,Y,Y,Y,Y,Y,Y,Y,Y,Y,O,O,O,O,O,O,O,O] ?_
         refine pn_ 13 87 #[Y,Y,Y,Y,Y,Y,Y,Y,Y,Y,Y,Y,Y,Y,O,O,O,O,O,O,O] ?_
         refine pn_ 14 88 #[Y,Y,Y,Y,Y,Y,Y,Y,Y,Y,Y,Y,Y,Y,Y,O,O,O,O,O,O] ?_
         refine pn_ 15 89 #[Y,Y,Y,Y,Y,Y,Y,Y,Y,Y,Y,Y,Y,Y,Y,Y,O,O,O,O,O] ?_
         refine pn_ 16 90 #[Y,Y,Y,Y,Y,Y,Y,Y,Y,Y,Y,Y,Y,Y,Y,Y,Y,O,O,O,O] ?_
         refine pn_ 17 91 #[Y,Y,Y,Y,Y,Y,Y,Y,Y,Y,Y,Y,Y,Y,Y,Y,Y,Y,O,O,O] ?_
         refine pn_ 18 92 #[Y,Y,Y,Y,Y,Y,Y,Y,Y,Y,Y,Y,Y,Y,Y,Y,Y,Y,Y,O,O] ?_
         refine pu_ 19 93 #[Y,Y,Y,Y,Y,Y,Y,Y,Y,Y,Y,Y,Y,Y,Y,Y,Y,Y,Y,Y,O] ?_
         refine pu_ 20 2 #[Y,Y,Y,Y,Y,Y,Y,Y,Y,Y,Y,Y,Y,Y,Y,Y,Y,Y,Y,Y,Y] ?_
         refine done_ (done_of HT_.out (by kernel_rfl)) ?_
         try go_wp2
         all_goals go_ret
         all_goals exact ⟨er_, hB_⟩

/-- THE ONE PURE STATEMENT of laws_FnGames: yours. -/
def laws_FnGames.Pure : Prop := ∀ (l0 : List Int), l0.length ≤ maxLen → l0.length * 1 ≤ 140737488351232 → (∀ x ∈ l0, (Lit.int .u8 x).wf = true) → ∃ k, laws_FnGames.f k l0 = some true
theorem laws_FnGames.walk (P : laws_FnGames.Pure) (a0 : Option Addr) (len0 cap0 : Nat) (z0 : List Int) (w : World) (w0 : (a0 = none ∧ len0 = 0 ∧ cap0 = 0 ∧ z0 = []) ∨ ∃ x, a0 = some x ∧ len0 ≤ cap0 ∧ cap0 ≤ maxLen ∧ z0.length = cap0 ∧ (∀ i, i < z0.length → w.cell? (x.add i) = some (.int .u8 (z0.getD i 0))) ∧ ∀ n ∈ z0, (Lit.int .u8 n).wf = true) (y0 : len0 * 1 ≤ 140737488351232) :
  Calls Try.prog 6 #[.slice a0 len0 cap0] w fun e w' => e = .returned (.bool true) ∧ Below w.heap.size w w' := by
 obtain ⟨l0, rfl, hr0, hm0, hw0, hc0⟩ := ReadsInt.ofRowC w0
 obtain ⟨k, h⟩ := P l0 hm0 y0 hw0
 refine (laws_FnGames.calls k _ _ l0 true w (Kd.C_of_reads (d := (0 : Int)) (h1 := fun _ => rfl) hr0) hc0 h).mono ?_
 rintro e w' ⟨rfl, hd⟩
 exact ⟨rfl, hd⟩

end Go.Proofs.Ytdlobolnajcfnaa.PFnGames
