-- Written by a program of this session (hooks of mine on the print): Lean checks it.
import Derived.Test.YtkmhkkhlbnhaaaaPFnExactIsCertainx0
import Derived.Test.YtkmhkkhlbnhaaaaPFnExactIsCertainx1
import Derived.Test.YtkmhkkhlbnhaaaaPFnExactIsCertainx7
import Derived.Test.YtkmhkkhlbnhaaaaPFnExactIsCertainx12
namespace Go.Proofs.Ytkmhkkhlbnhaaaa.PFnExactIsCertain
open Go.RowKit Go.Proofs.YtkmhkkhlbnhaaaaW.PrintWords Go.Proofs.YtkmhkkhlbnhaaaaW.PrintLast Go.Proofs.YtkmhkkhlbnhaaaaW.PrintMore
attribute [local go_sem] max2_int min2_int max_two min_two max_three min_three max_four min_four   -- for this text's walks alone
set_option linter.unusedVariables false
set_option linter.unusedSimpArgs false

/-! ### laws_eqIntS: function 33 -/
def laws_eqIntS.l0 : Nat → List Int → List Int → Int → Option (Bool)
 | 0, _, _, _ => none
 | k + 1, x0, x1, x5 => if x5 < (x0.length : Int) then (if 0 ≤ x5 then (if x5 < (x1.length : Int) then (if (rd x0 x5) = (rd x1 x5) then (laws_eqIntS.l0 k x0 x1 (wrap64 (x5 + 1))) else (some false)) else (none)) else (none)) else (some true)
def laws_eqIntS.f (k : Nat) (l0 : List Int) (l1 : List Int) : Option (Bool) := if (l0.length : Int) = (l1.length : Int) then (laws_eqIntS.l0 k l0 l1 0) else (some false)
theorem laws_eqIntS.mono_l : ∀ k, (∀ y0 y1 y2, LeO (laws_eqIntS.l0 k y0 y1 y2) (laws_eqIntS.l0 (k + 1) y0 y1 y2))
 | 0 => fun _ _ _ r h => by simp [laws_eqIntS.l0] at h
 | k + 1 => by
  have ih0 := laws_eqIntS.mono_l k
  ·intro y0 y1 y2
   unfold laws_eqIntS.l0
   repeat' first
   | (with_reducible exact ih0 _ _ _)
   | (with_reducible exact Zs _)
   | (with_reducible exact Zg _)
   | (with_reducible refine Zn ?_ ?_)
   | (with_reducible refine Zh ?_ (fun _ => ?_))
   | exact ih0 _ _ _
   | exact Zg _
   | refine Zn ?_ ?_
   | refine Zh ?_ (fun _ => ?_)
theorem laws_eqIntS.mono : ∀ a0 a1 k, LeO (laws_eqIntS.f k a0 a1) (laws_eqIntS.f (k + 1) a0 a1) := by
 intro a0 a1 k
 have ih0 := laws_eqIntS.mono_l k
 unfold laws_eqIntS.f
 repeat' first
   | (with_reducible exact ih0 _ _ _)
   | (with_reducible exact Zs _)
   | (with_reducible exact Zg _)
   | (with_reducible refine Zn ?_ ?_)
   | (with_reducible refine Zh ?_ (fun _ => ?_))
   | exact ih0 _ _ _
   | exact Zg _
   | refine Zn ?_ ?_
   | refine Zh ?_ (fun _ => ?_)
set_option maxHeartbeats 8000000 in
set_option maxRecDepth 100000 in
theorem laws_eqIntS.calls (k : Nat) (A0 : Option Addr) (c0 : Nat) (l0 : List Int) (A1 : Option Addr) (c1 : Nat) (l1 : List Int) (r : Bool) (w : World) (hr0 : Kd.C (Kd.int .i64) w A0 l0.length l0) (hc0 : l0.length ≤ c0) (hr1 : Kd.C (Kd.int .i64) w A1 l1.length l1) (hc1 : l1.length ≤ c1) (h : laws_eqIntS.f k l0 l1 = some r) :
  Calls Try.prog 33 #[.slice A0 l0.length c0, .slice A1 l1.length c1] w fun e w' => e = .returned (.bool r) ∧ Drawn0 w w' := by
 have HR0 := Aside0.mk hr0
 have HC0 := Aside0.mk hc0
 clear hr0 hc0
 have HR1 := Aside0.mk hr1
 have HC1 := Aside0.mk hc1
 clear hr1 hc1
 have H : (if (l0.length : Int) = (l1.length : Int) then (laws_eqIntS.l0 k l0 l1 0) else (some false)) = some r := h
 clear h
 by_cases c3 : (l0.length : Int) = (l1.length : Int)
 ·rw [if_pos c3] at H
  have c3b0 : ((l0.length : Int) == (l1.length : Int)) = true := beq_iff_eq.mpr c3
  have c3b1 : ((l0.length : Int) != (l1.length : Int)) = false := bne_eq_false_iff_eq.mpr c3
  have c3b2 : (l0.length == l1.length) = true := by first | simpa using c3 | (simp at c3 ⊢; omega)
  clear c3
  have H' := Aside0.mk H
  clear H
  go_enter Try.func33, Try.ntmps33
  go_wp2
  repeat (go_quiet (fail); try go_wp2)
  go_loopg [5] k (fun kq v5 w' => ∃ (x5_1 : Int), v5 = .int .i64 x5_1 ∧ Aside0 (laws_eqIntS.l0 kq l0 l1 x5_1 = some r) ∧ Aside0 (kq ≤ k) ∧ Drawn0 w w')
  case atStart => exact ⟨(0), sm_, H', ⟨Nat.le_refl _⟩, dr_⟩
  case round =>
   clear H'
   try clear c1
   try clear p2
   try clear c3
   try clear c3b0
   try clear c3b1
   try clear c3b2
   obtain ⟨x5_1, rfl, HA, HK1, ⟨m1, rfl⟩⟩ := hrel
   cases gk with
   | zero => exact absurd HA.out (by simp [laws_eqIntS.l0])
   | succ k1 =>
    have H := HA.out
    clear HA
    simp only [laws_eqIntS.l0] at H
    by_cases c4 : x5_1 < (l0.length : Int)
    ·rw [if_pos c4] at H
     have c4b0 : decide (x5_1 < (l0.length : Int)) = true := decide_eq_true c4
     clear c4
     by_cases c5 : 0 ≤ x5_1
     ·rw [if_pos c5] at H
      have c5b0 : decide (0 ≤ x5_1) = true := decide_eq_true c5
      clear c5
      by_cases c6 : x5_1 < (l1.length : Int)
      ·rw [if_pos c6] at H
       have c6b0 : decide (x5_1 < (l1.length : Int)) = true := decide_eq_true c6
       clear c6
       by_cases c7 : (rd l0 x5_1) = (rd l1 x5_1)
       ·rw [if_pos c7] at H
        have c7b0 : ((rd l0 x5_1) == (rd l1 x5_1)) = true := beq_iff_eq.mpr c7
        have c7b1 : ((rd l0 x5_1) != (rd l1 x5_1)) = false := bne_eq_false_iff_eq.mpr c7
        clear c7
        have H' := Aside0.mk H
        clear H
        have p434 : 0 ≤ (x5_1 : Int) := of_decide_eq_true as_
        have q434 : x5_1 < (l0.length : Int) := of_decide_eq_true as_
        obtain ⟨ad434, e434, hx434_0⟩ := Zo HR0.out x5_1 p434 q434
        cases e434
        replace p434 := eq_true p434
        replace q434 := eq_true q434
        have p435 : 0 ≤ (x5_1 : Int) := of_decide_eq_true as_
        have q435 : x5_1 < (l1.length : Int) := of_decide_eq_true as_
        obtain ⟨ad435, e435, hx435_0⟩ := Zo HR1.out x5_1 p435 q435
        cases e435
        replace p435 := eq_true p435
        replace q435 := eq_true q435
        go_wp2
        repeat (go_quiet (fail); try go_wp2)
        go_roundg k1
        case measure => have := HK1.out; omega
        case rel => exact ⟨(wrap64 (x5_1 + 1)), sm_, H', ⟨by have := HK1.out; omega⟩, dr_⟩
       ·rw [if_neg c7] at H
        have c7b0 : ((rd l0 x5_1) == (rd l1 x5_1)) = false := beq_eq_false_iff_ne.mpr c7
        have c7b1 : ((rd l0 x5_1) != (rd l1 x5_1)) = true := bne_iff_ne.mpr c7
        obtain rfl := Option.some.inj H
        have p434 : 0 ≤ (x5_1 : Int) := of_decide_eq_true as_
        have q434 : x5_1 < (l0.length : Int) := of_decide_eq_true as_
        obtain ⟨ad434, e434, hx434_0⟩ := Zo HR0.out x5_1 p434 q434
        cases e434
        replace p434 := eq_true p434
        replace q434 := eq_true q434
        have p435 : 0 ≤ (x5_1 : Int) := of_decide_eq_true as_
        have q435 : x5_1 < (l1.length : Int) := of_decide_eq_true as_
        obtain ⟨ad435, e435, hx435_0⟩ := Zo HR1.out x5_1 p435 q435
        cases e435
        replace p435 := eq_true p435
        replace q435 := eq_true q435
        go_wp2
        repeat (go_quiet (fail); try go_wp2)
        go_ret
        exact ⟨sm_, dr_⟩
      ·rw [if_neg c6] at H
       exact absurd H (by simp)
     ·rw [if_neg c5] at H
      exact absurd H (by simp)
    ·rw [if_neg c4] at H
     have c4b0 : decide (x5_1 < (l0.length : Int)) = false := decide_eq_false c4
     clear c4
     obtain rfl := Option.some.inj H
     go_wp2
     repeat (go_quiet (fail); try go_wp2)
     go_ret
     exact ⟨sm_, dr_⟩
 ·rw [if_neg c3] at H
  have c3b0 : ((l0.length : Int) == (l1.length : Int)) = false := beq_eq_false_iff_ne.mpr c3
  have c3b1 : ((l0.length : Int) != (l1.length : Int)) = true := bne_iff_ne.mpr c3
  have c3b2 : (l0.length == l1.length) = false := by first | simpa using c3 | (simp at c3 ⊢; omega)
  obtain rfl := Option.some.inj H
  go_enter Try.func33, Try.ntmps33
  go_wp2
  repeat (go_quiet (fail); try go_wp2)
  go_ret
  exact ⟨sm_, dr_⟩

/-! ### laws_eqIntSS: function 20 -/
def laws_eqIntSS.l0 : Nat → List (List Int) → List (List Int) → Int → Option (Bool)
 | 0, _, _, _ => none
 | k + 1, x0, x1, x5 => if x5 < (x0.length : Int) then (if 0 ≤ x5 then (if x5 < (x1.length : Int) then ((laws_eqIntS.f k (rd_L1 x0 x5) (rd_L1 x1 x5)).bind fun t438 => (if t438 = true then (laws_eqIntSS.l0 k x0 x1 (wrap64 (x5 + 1))) else (some false))) else (none)) else (none)) else (some true)
def laws_eqIntSS.f (k : Nat) (l0 : List (List Int)) (l1 : List (List Int)) : Option (Bool) := if (l0.length : Int) = (l1.length : Int) then (laws_eqIntSS.l0 k l0 l1 0) else (some false)
theorem laws_eqIntSS.mono_l : ∀ k, (∀ y0 y1 y2, LeO (laws_eqIntSS.l0 k y0 y1 y2) (laws_eqIntSS.l0 (k + 1) y0 y1 y2))
 | 0 => fun _ _ _ r h => by simp [laws_eqIntSS.l0] at h
 | k + 1 => by
  have ih0 := laws_eqIntSS.mono_l k
  ·intro y0 y1 y2
   unfold laws_eqIntSS.l0
   repeat' first
   | (with_reducible exact ih0 _ _ _)
   | (with_reducible exact laws_eqIntS.mono _ _ _)
   | (with_reducible exact Zs _)
   | (with_reducible exact Zg _)
   | (with_reducible refine Zn ?_ ?_)
   | (with_reducible refine Zh ?_ (fun _ => ?_))
   | exact ih0 _ _ _
   | exact laws_eqIntS.mono _ _ _
   | exact Zg _
   | refine Zn ?_ ?_
   | refine Zh ?_ (fun _ => ?_)
theorem laws_eqIntSS.mono : ∀ a0 a1 k, LeO (laws_eqIntSS.f k a0 a1) (laws_eqIntSS.f (k + 1) a0 a1) := by
 intro a0 a1 k
 have ih0 := laws_eqIntSS.mono_l k
 unfold laws_eqIntSS.f
 repeat' first
   | (with_reducible exact ih0 _ _ _)
   | (with_reducible exact laws_eqIntS.mono _ _ _)
   | (with_reducible exact Zs _)
   | (with_reducible exact Zg _)
   | (with_reducible refine Zn ?_ ?_)
   | (with_reducible refine Zh ?_ (fun _ => ?_))
   | exact ih0 _ _ _
   | exact laws_eqIntS.mono _ _ _
   | exact Zg _
   | refine Zn ?_ ?_
   | refine Zh ?_ (fun _ => ?_)
set_option maxHeartbeats 8000000 in
set_option maxRecDepth 100000 in
theorem laws_eqIntSS.calls (k : Nat) (A0 : Option Addr) (c0 : Nat) (l0 : List (List Int)) (A1 : Option Addr) (c1 : Nat) (l1 : List (List Int)) (r : Bool) (w : World) (hr0 : Kd.C (Kd.slice 3 (Kd.int .i64)) w A0 l0.length l0) (hc0 : l0.length ≤ c0) (hr1 : Kd.C (Kd.slice 3 (Kd.int .i64)) w A1 l1.length l1) (hc1 : l1.length ≤ c1) (h : laws_eqIntSS.f k l0 l1 = some r) :
  Calls Try.prog 20 #[.slice A0 l0.length c0, .slice A1 l1.length c1] w fun e w' => e = .returned (.bool r) ∧ Drawn0 w w' := by
 have HR0 := Aside0.mk hr0
 have HC0 := Aside0.mk hc0
 clear hr0 hc0
 have HR1 := Aside0.mk hr1
 have HC1 := Aside0.mk hc1
 clear hr1 hc1
 have H : (if (l0.length : Int) = (l1.length : Int) then (laws_eqIntSS.l0 k l0 l1 0) else (some false)) = some r := h
 clear h
 by_cases c3 : (l0.length : Int) = (l1.length : Int)
 ·rw [if_pos c3] at H
  have c3b0 : ((l0.length : Int) == (l1.length : Int)) = true := beq_iff_eq.mpr c3
  have c3b1 : ((l0.length : Int) != (l1.length : Int)) = false := bne_eq_false_iff_eq.mpr c3
  have c3b2 : (l0.length == l1.length) = true := by first | simpa using c3 | (simp at c3 ⊢; omega)
  clear c3
  have H' := Aside0.mk H
  clear H
  go_enter Try.func20, Try.ntmps20
  go_wp2
  repeat (go_quiet (fail); try go_wp2)
  go_loopg [5] k (fun kq v5 w' => ∃ (x5_1 : Int), v5 = .int .i64 x5_1 ∧ Aside0 (laws_eqIntSS.l0 kq l0 l1 x5_1 = some r) ∧ Aside0 (kq ≤ k) ∧ Drawn0 w w')
  case atStart => exact ⟨(0), sm_, H', ⟨Nat.le_refl _⟩, dr_⟩
  case round =>
   clear H'
   try clear c1
   try clear c2
   try clear p2
   try clear c3
   try clear c3b0
   try clear c3b1
   try clear c3b2
   obtain ⟨x5_1, rfl, HA, HK1, ⟨m1, rfl⟩⟩ := hrel
   cases gk with
   | zero => exact absurd HA.out (by simp [laws_eqIntSS.l0])
   | succ k1 =>
    have H := HA.out
    clear HA
    simp only [laws_eqIntSS.l0] at H
    by_cases c4 : x5_1 < (l0.length : Int)
    ·rw [if_pos c4] at H
     have c4b0 : decide (x5_1 < (l0.length : Int)) = true := decide_eq_true c4
     clear c4
     by_cases c5 : 0 ≤ x5_1
     ·rw [if_pos c5] at H
      have c5b0 : decide (0 ≤ x5_1) = true := decide_eq_true c5
      clear c5
      by_cases c6 : x5_1 < (l1.length : Int)
      ·rw [if_pos c6] at H
       have c6b0 : decide (x5_1 < (l1.length : Int)) = true := decide_eq_true c6
       clear c6
       replace H := Option.bind_eq_some_iff.mp H
       obtain ⟨t438, A70, H⟩ := H
       replace H : (if t438 = true then (laws_eqIntSS.l0 k1 l0 l1 (wrap64 (x5_1 + 1))) else (some false)) = some r := H
       have A7 := Aside0.mk A70
       clear A70
       by_cases c8 : t438 = true
       ·subst c8
        have H1 : (laws_eqIntSS.l0 k1 l0 l1 (wrap64 (x5_1 + 1))) = some r := by rw [if_pos rfl] at H; exact H
        clear H
        have H := H1
        clear H1
        have H' := Aside0.mk H
        clear H
        have p436 : 0 ≤ (x5_1 : Int) := of_decide_eq_true as_
        have q436 : x5_1 < (l0.length : Int) := of_decide_eq_true as_
        obtain ⟨ad436, A436_0, c436_0, e436, hx436_0, hl436_0, hi436_0⟩ := at_L1 HR0.out x5_1 p436 q436
        cases e436
        have HR436_0 := Aside0.mk hi436_0
        have HC436_0 := Aside0.mk hl436_0
        clear hi436_0 hl436_0
        replace p436 := eq_true p436
        replace q436 := eq_true q436
        have p437 : 0 ≤ (x5_1 : Int) := of_decide_eq_true as_
        have q437 : x5_1 < (l1.length : Int) := of_decide_eq_true as_
        obtain ⟨ad437, A437_0, c437_0, e437, hx437_0, hl437_0, hi437_0⟩ := at_L1 HR1.out x5_1 p437 q437
        cases e437
        have HR437_0 := Aside0.mk hi437_0
        have HC437_0 := Aside0.mk hl437_0
        clear hi437_0 hl437_0
        replace p437 := eq_true p437
        replace q437 := eq_true q437
        go_wp2_with (first | (go_at_call 33; (with_reducible refine (laws_eqIntS.calls k1 _ _ (rd_L1 l0 x5_1) _ _ (rd_L1 l1 x5_1) true _ ?side1 ?side2 ?side3 ?side4 A7.out).mono ?_); (case side1 => repeat (first | exact HR436_0.out | (with_reducible refine Zv ?_ _) | (with_reducible refine Zt ?_ _) | (with_reducible refine Zy ?_))); (case side2 => exact HC436_0.out); (case side3 => repeat (first | exact HR437_0.out | (with_reducible refine Zv ?_ _) | (with_reducible refine Zt ?_ _) | (with_reducible refine Zy ?_))); (case side4 => exact HC437_0.out); rintro e w' ⟨rfl, ⟨nd, rfl⟩⟩; (try first | exact ⟨rfl, _, World.drewN_drewN _ _ _⟩ | exact ⟨rfl, _, Eq.trans (World.drewN_drewN _ _ _) (congrArg (World.drewN _) (Nat.add_assoc _ _ _))⟩)))
        repeat (go_quiet (first | (go_at_call 33; (with_reducible refine (laws_eqIntS.calls k1 _ _ (rd_L1 l0 x5_1) _ _ (rd_L1 l1 x5_1) true _ ?side1 ?side2 ?side3 ?side4 A7.out).mono ?_); (case side1 => repeat (first | exact HR436_0.out | (with_reducible refine Zv ?_ _) | (with_reducible refine Zt ?_ _) | (with_reducible refine Zy ?_))); (case side2 => exact HC436_0.out); (case side3 => repeat (first | exact HR437_0.out | (with_reducible refine Zv ?_ _) | (with_reducible refine Zt ?_ _) | (with_reducible refine Zy ?_))); (case side4 => exact HC437_0.out); rintro e w' ⟨rfl, ⟨nd, rfl⟩⟩; (try first | exact ⟨rfl, _, World.drewN_drewN _ _ _⟩ | exact ⟨rfl, _, Eq.trans (World.drewN_drewN _ _ _) (congrArg (World.drewN _) (Nat.add_assoc _ _ _))⟩))); try go_wp2_with (first | (go_at_call 33; (with_reducible refine (laws_eqIntS.calls k1 _ _ (rd_L1 l0 x5_1) _ _ (rd_L1 l1 x5_1) true _ ?side1 ?side2 ?side3 ?side4 A7.out).mono ?_); (case side1 => repeat (first | exact HR436_0.out | (with_reducible refine Zv ?_ _) | (with_reducible refine Zt ?_ _) | (with_reducible refine Zy ?_))); (case side2 => exact HC436_0.out); (case side3 => repeat (first | exact HR437_0.out | (with_reducible refine Zv ?_ _) | (with_reducible refine Zt ?_ _) | (with_reducible refine Zy ?_))); (case side4 => exact HC437_0.out); rintro e w' ⟨rfl, ⟨nd, rfl⟩⟩; (try first | exact ⟨rfl, _, World.drewN_drewN _ _ _⟩ | exact ⟨rfl, _, Eq.trans (World.drewN_drewN _ _ _) (congrArg (World.drewN _) (Nat.add_assoc _ _ _))⟩))))
        go_roundg k1
        case measure => have := HK1.out; omega
        case rel => exact ⟨(wrap64 (x5_1 + 1)), sm_, H', ⟨by have := HK1.out; omega⟩, dr_⟩
       ·replace c8 := Bool.eq_false_iff.mpr c8
        subst c8
        have H1 : (some false) = some r := by rw [if_neg (show ¬ (false = true) by decide)] at H; exact H
        clear H
        have H := H1
        clear H1
        obtain rfl := Option.some.inj H
        have p436 : 0 ≤ (x5_1 : Int) := of_decide_eq_true as_
        have q436 : x5_1 < (l0.length : Int) := of_decide_eq_true as_
        obtain ⟨ad436, A436_0, c436_0, e436, hx436_0, hl436_0, hi436_0⟩ := at_L1 HR0.out x5_1 p436 q436
        cases e436
        have HR436_0 := Aside0.mk hi436_0
        have HC436_0 := Aside0.mk hl436_0
        clear hi436_0 hl436_0
        replace p436 := eq_true p436
        replace q436 := eq_true q436
        have p437 : 0 ≤ (x5_1 : Int) := of_decide_eq_true as_
        have q437 : x5_1 < (l1.length : Int) := of_decide_eq_true as_
        obtain ⟨ad437, A437_0, c437_0, e437, hx437_0, hl437_0, hi437_0⟩ := at_L1 HR1.out x5_1 p437 q437
        cases e437
        have HR437_0 := Aside0.mk hi437_0
        have HC437_0 := Aside0.mk hl437_0
        clear hi437_0 hl437_0
        replace p437 := eq_true p437
        replace q437 := eq_true q437
        go_wp2_with (first | (go_at_call 33; (with_reducible refine (laws_eqIntS.calls k1 _ _ (rd_L1 l0 x5_1) _ _ (rd_L1 l1 x5_1) false _ ?side1 ?side2 ?side3 ?side4 A7.out).mono ?_); (case side1 => repeat (first | exact HR436_0.out | (with_reducible refine Zv ?_ _) | (with_reducible refine Zt ?_ _) | (with_reducible refine Zy ?_))); (case side2 => exact HC436_0.out); (case side3 => repeat (first | exact HR437_0.out | (with_reducible refine Zv ?_ _) | (with_reducible refine Zt ?_ _) | (with_reducible refine Zy ?_))); (case side4 => exact HC437_0.out); rintro e w' ⟨rfl, ⟨nd, rfl⟩⟩; (try first | exact ⟨rfl, _, World.drewN_drewN _ _ _⟩ | exact ⟨rfl, _, Eq.trans (World.drewN_drewN _ _ _) (congrArg (World.drewN _) (Nat.add_assoc _ _ _))⟩)))
        repeat (go_quiet (first | (go_at_call 33; (with_reducible refine (laws_eqIntS.calls k1 _ _ (rd_L1 l0 x5_1) _ _ (rd_L1 l1 x5_1) false _ ?side1 ?side2 ?side3 ?side4 A7.out).mono ?_); (case side1 => repeat (first | exact HR436_0.out | (with_reducible refine Zv ?_ _) | (with_reducible refine Zt ?_ _) | (with_reducible refine Zy ?_))); (case side2 => exact HC436_0.out); (case side3 => repeat (first | exact HR437_0.out | (with_reducible refine Zv ?_ _) | (with_reducible refine Zt ?_ _) | (with_reducible refine Zy ?_))); (case side4 => exact HC437_0.out); rintro e w' ⟨rfl, ⟨nd, rfl⟩⟩; (try first | exact ⟨rfl, _, World.drewN_drewN _ _ _⟩ | exact ⟨rfl, _, Eq.trans (World.drewN_drewN _ _ _) (congrArg (World.drewN _) (Nat.add_assoc _ _ _))⟩))); try go_wp2_with (first | (go_at_call 33; (with_reducible refine (laws_eqIntS.calls k1 _ _ (rd_L1 l0 x5_1) _ _ (rd_L1 l1 x5_1) false _ ?side1 ?side2 ?side3 ?side4 A7.out).mono ?_); (case side1 => repeat (first | exact HR436_0.out | (with_reducible refine Zv ?_ _) | (with_reducible refine Zt ?_ _) | (with_reducible refine Zy ?_))); (case side2 => exact HC436_0.out); (case side3 => repeat (first | exact HR437_0.out | (with_reducible refine Zv ?_ _) | (with_reducible refine Zt ?_ _) | (with_reducible refine Zy ?_))); (case side4 => exact HC437_0.out); rintro e w' ⟨rfl, ⟨nd, rfl⟩⟩; (try first | exact ⟨rfl, _, World.drewN_drewN _ _ _⟩ | exact ⟨rfl, _, Eq.trans (World.drewN_drewN _ _ _) (congrArg (World.drewN _) (Nat.add_assoc _ _ _))⟩))))
        go_ret
        exact ⟨sm_, dr_⟩
      ·rw [if_neg c6] at H
       exact absurd H (by simp)
     ·rw [if_neg c5] at H
      exact absurd H (by simp)
    ·rw [if_neg c4] at H
     have c4b0 : decide (x5_1 < (l0.length : Int)) = false := decide_eq_false c4
     clear c4
     obtain rfl := Option.some.inj H
     go_wp2
     repeat (go_quiet (fail); try go_wp2)
     go_ret
     exact ⟨sm_, dr_⟩
 ·rw [if_neg c3] at H
  have c3b0 : ((l0.length : Int) == (l1.length : Int)) = false := beq_eq_false_iff_ne.mpr c3
  have c3b1 : ((l0.length : Int) != (l1.length : Int)) = true := bne_iff_ne.mpr c3
  have c3b2 : (l0.length == l1.length) = false := by first | simpa using c3 | (simp at c3 ⊢; omega)
  obtain rfl := Option.some.inj H
  go_enter Try.func20, Try.ntmps20
  go_wp2
  repeat (go_quiet (fail); try go_wp2)
  go_ret
  exact ⟨sm_, dr_⟩

/-! ### laws_eqGraph: function 17 -/
def laws_eqGraph.f (k : Nat) (a0_0 : Int) (l0_1 : List (List Int)) (a1_0 : Int) (l1_1 : List (List Int)) : Option (Bool) := if a0_0 = a1_0 then ((laws_eqIntSS.f k l0_1 l1_1).bind fun t441 => (if t441 = true then (some true) else (some false))) else (some false)
theorem laws_eqGraph.mono : ∀ a0 a1 a2 a3 k, LeO (laws_eqGraph.f k a0 a1 a2 a3) (laws_eqGraph.f (k + 1) a0 a1 a2 a3) := by
 intro a0 a1 a2 a3 k
 unfold laws_eqGraph.f
 repeat' first
   | (with_reducible exact laws_eqIntSS.mono _ _ _)
   | (with_reducible exact Zs _)
   | (with_reducible exact Zg _)
   | (with_reducible refine Zn ?_ ?_)
   | (with_reducible refine Zh ?_ (fun _ => ?_))
   | exact laws_eqIntSS.mono _ _ _
   | exact Zg _
   | refine Zn ?_ ?_
   | refine Zh ?_ (fun _ => ?_)
set_option maxHeartbeats 8000000 in
set_option maxRecDepth 100000 in
theorem laws_eqGraph.calls (k : Nat) (a0_0 : Int) (A0_1 : Option Addr) (c0_1 : Nat) (l0_1 : List (List Int)) (a1_0 : Int) (A1_1 : Option Addr) (c1_1 : Nat) (l1_1 : List (List Int)) (r : Bool) (w : World) (hr0_1 : Kd.C (Kd.slice 3 (Kd.int .i64)) w A0_1 l0_1.length l0_1) (hc0_1 : l0_1.length ≤ c0_1) (hr1_1 : Kd.C (Kd.slice 3 (Kd.int .i64)) w A1_1 l1_1.length l1_1) (hc1_1 : l1_1.length ≤ c1_1) (h : laws_eqGraph.f k a0_0 l0_1 a1_0 l1_1 = some r) :
  Calls Try.prog 17 #[.agg #[.int .i64 a0_0, .slice A0_1 l0_1.length c0_1], .agg #[.int .i64 a1_0, .slice A1_1 l1_1.length c1_1]] w fun e w' => e = .returned (.bool r) ∧ Below w.heap.size w w' := by
 have hu27 := Try.underlying27
 have HR0_1 := Aside0.mk hr0_1
 have HC0_1 := Aside0.mk hc0_1
 clear hr0_1 hc0_1
 have HR1_1 := Aside0.mk hr1_1
 have HC1_1 := Aside0.mk hc1_1
 clear hr1_1 hc1_1
 have HB := Aside0.mk (Below.refl w.heap.size w)
 have H : (if a0_0 = a1_0 then ((laws_eqIntSS.f k l0_1 l1_1).bind fun t441 => (if t441 = true then (some true) else (some false))) else (some false)) = some r := h
 clear h
 by_cases c3 : a0_0 = a1_0
 ·rw [if_pos c3] at H
  have c3b0 : (a0_0 == a1_0) = true := beq_iff_eq.mpr c3
  have c3b1 : (a0_0 != a1_0) = false := bne_eq_false_iff_eq.mpr c3
  clear c3
  replace H := Option.bind_eq_some_iff.mp H
  obtain ⟨t441, A40, H⟩ := H
  replace H : (if t441 = true then (some true) else (some false)) = some r := H
  have A4 := Aside0.mk A40
  clear A40
  by_cases c5 : t441 = true
  ·subst c5
   have H1 : (some true) = some r := by rw [if_pos rfl] at H; exact H
   clear H
   have H := H1
   clear H1
   obtain rfl := Option.some.inj H
   go_enter Try.func17, Try.ntmps17
   go_wp2_with (first | ((with_reducible refine Zr (N := 2) rfl ?_); refine Zu ?hg (N := 2) ?hd (cs := #[.int .i64 a0_0, .slice A0_1 l0_1.length c0_1]) (t := 27) ?hr ?_; (case hd => rfl); (case hg => rfl); (case hr => first | (go_simp; done) | (go_simp; rfl)); intro gb439 hg w6 hbox hb; have n0_ := Aside0.mk (Zf hb_ hb); have n1_ := Aside0.mk (hbox); have n2_ := Aside0.mk ((hz_ hg : w.heap.size ≤ gb439)); have n3_ := Aside0.mk ((hz_ hg : w.heap.size ≤ gb439)); clear HB; have HB := n0_; have BK439 := n1_; have GW439 := n2_; have GE439 := n3_; clear n0_ n1_ n2_ n3_; clear hb hbox hg) | ((with_reducible refine Zr (N := 3) rfl ?_); refine Zu ?hg (N := 3) ?hd (cs := #[.int .i64 a1_0, .slice A1_1 l1_1.length c1_1]) (t := 27) ?hr ?_; (case hd => rfl); (case hg => rfl); (case hr => first | (go_simp; done) | (go_simp; rfl)); intro gb440 hg w7 hbox hb; have n0_ := Aside0.mk (Zj (g := gb439) (o := .cells #[.int .i64 a0_0, .slice A0_1 l0_1.length c0_1] 27 (0, 0)) (bk_ BK439.out) hb); have n1_ := Aside0.mk (Zf hb_ hb); have n2_ := Aside0.mk (hbox); have n3_ := Aside0.mk ((hz_ hg : w.heap.size ≤ gb440)); have n4_ := Aside0.mk ((hz_ hg : w.heap.size ≤ gb440)); have n5_ := Aside0.mk ((by rw [hg]; exact Nat.ne_of_lt (blk_lt (g := gb439) (o := .cells #[.int .i64 a0_0, .slice A0_1 l0_1.length c0_1] 27 (0, 0)) (bk_ BK439.out)) : gb439 ≠ gb440)); have n6_ := Aside0.mk ((by rw [hg]; exact Nat.ne_of_gt (blk_lt (g := gb439) (o := .cells #[.int .i64 a0_0, .slice A0_1 l0_1.length c0_1] 27 (0, 0)) (bk_ BK439.out)) : gb440 ≠ gb439)); clear BK439; clear HB; have BK439 := n0_; have HB := n1_; have BK440 := n2_; have GW440 := n3_; have GE440 := n4_; have NB439_440 := n5_; have NB440_439 := n6_; clear n0_ n1_ n2_ n3_ n4_ n5_ n6_; clear hb hbox hg; have hnb8 := NB439_440.out; have hnc8 := NB440_439.out; have hcz9_0 : w7.cell? ⟨gb439, 0, none⟩ = some (.int .i64 a0_0) := (Ze BK439.out 0).trans rfl; have hcz9_1 : w7.cell? ⟨gb439, 1, none⟩ = some (.slice A0_1 l0_1.length c0_1) := (Ze BK439.out 1).trans rfl; have hfz9_0 := Zd BK439.out 0; have hfz9_1 := Zd BK439.out 1; have hcz10_0 : w7.cell? ⟨gb440, 0, none⟩ = some (.int .i64 a1_0) := (Ze BK440.out 0).trans rfl; have hcz10_1 : w7.cell? ⟨gb440, 1, none⟩ = some (.slice A1_1 l1_1.length c1_1) := (Ze BK440.out 1).trans rfl; have hfz10_0 := Zd BK440.out 0; have hfz10_1 := Zd BK440.out 1) | ((with_reducible refine Zl (f := 20) rfl ?_); refine Zx (some 14) rfl rfl Try.func20 (by kernel_rfl) rfl #[.slice A0_1 l0_1.length c0_1, .slice A1_1 l1_1.length c1_1] rfl ar_ ?_; (with_reducible refine (laws_eqIntSS.calls k _ _ l0_1 _ _ l1_1 true _ ?side1 ?side2 ?side3 ?side4 A4.out).mono ?_); (case side1 => exact cb_ HR0_1.out); (case side2 => exact HC0_1.out); (case side3 => exact cb_ HR1_1.out); (case side4 => exact HC1_1.out); rintro e w' ⟨rfl, ⟨nd, rfl⟩⟩; refine ⟨_, rfl, ?_⟩))
   go_ret
   exact ⟨er_, hb_⟩
  ·replace c5 := Bool.eq_false_iff.mpr c5
   subst c5
   have H1 : (some false) = some r := by rw [if_neg (show ¬ (false = true) by decide)] at H; exact H
   clear H
   have H := H1
   clear H1
   obtain rfl := Option.some.inj H
   go_enter Try.func17, Try.ntmps17
   go_wp2_with (first | ((with_reducible refine Zr (N := 2) rfl ?_); refine Zu ?hg (N := 2) ?hd (cs := #[.int .i64 a0_0, .slice A0_1 l0_1.length c0_1]) (t := 27) ?hr ?_; (case hd => rfl); (case hg => rfl); (case hr => first | (go_simp; done) | (go_simp; rfl)); intro gb439 hg w11 hbox hb; have n0_ := Aside0.mk (Zf hb_ hb); have n1_ := Aside0.mk (hbox); have n2_ := Aside0.mk ((hz_ hg : w.heap.size ≤ gb439)); have n3_ := Aside0.mk ((hz_ hg : w.heap.size ≤ gb439)); clear HB; have HB := n0_; have BK439 := n1_; have GW439 := n2_; have GE439 := n3_; clear n0_ n1_ n2_ n3_; clear hb hbox hg) | ((with_reducible refine Zr (N := 3) rfl ?_); refine Zu ?hg (N := 3) ?hd (cs := #[.int .i64 a1_0, .slice A1_1 l1_1.length c1_1]) (t := 27) ?hr ?_; (case hd => rfl); (case hg => rfl); (case hr => first | (go_simp; done) | (go_simp; rfl)); intro gb440 hg w12 hbox hb; have n0_ := Aside0.mk (Zj (g := gb439) (o := .cells #[.int .i64 a0_0, .slice A0_1 l0_1.length c0_1] 27 (0, 0)) (bk_ BK439.out) hb); have n1_ := Aside0.mk (Zf hb_ hb); have n2_ := Aside0.mk (hbox); have n3_ := Aside0.mk ((hz_ hg : w.heap.size ≤ gb440)); have n4_ := Aside0.mk ((hz_ hg : w.heap.size ≤ gb440)); have n5_ := Aside0.mk ((by rw [hg]; exact Nat.ne_of_lt (blk_lt (g := gb439) (o := .cells #[.int .i64 a0_0, .slice A0_1 l0_1.length c0_1] 27 (0, 0)) (bk_ BK439.out)) : gb439 ≠ gb440)); have n6_ := Aside0.mk ((by rw [hg]; exact Nat.ne_of_gt (blk_lt (g := gb439) (o := .cells #[.int .i64 a0_0, .slice A0_1 l0_1.length c0_1] 27 (0, 0)) (bk_ BK439.out)) : gb440 ≠ gb439)); clear BK439; clear HB; have BK439 := n0_; have HB := n1_; have BK440 := n2_; have GW440 := n3_; have GE440 := n4_; have NB439_440 := n5_; have NB440_439 := n6_; clear n0_ n1_ n2_ n3_ n4_ n5_ n6_; clear hb hbox hg; have hnb13 := NB439_440.out; have hnc13 := NB440_439.out; have hcz14_0 : w12.cell? ⟨gb439, 0, none⟩ = some (.int .i64 a0_0) := (Ze BK439.out 0).trans rfl; have hcz14_1 : w12.cell? ⟨gb439, 1, none⟩ = some (.slice A0_1 l0_1.length c0_1) := (Ze BK439.out 1).trans rfl; have hfz14_0 := Zd BK439.out 0; have hfz14_1 := Zd BK439.out 1; have hcz15_0 : w12.cell? ⟨gb440, 0, none⟩ = some (.int .i64 a1_0) := (Ze BK440.out 0).trans rfl; have hcz15_1 : w12.cell? ⟨gb440, 1, none⟩ = some (.slice A1_1 l1_1.length c1_1) := (Ze BK440.out 1).trans rfl; have hfz15_0 := Zd BK440.out 0; have hfz15_1 := Zd BK440.out 1) | ((with_reducible refine Zl (f := 20) rfl ?_); refine Zx (some 14) rfl rfl Try.func20 (by kernel_rfl) rfl #[.slice A0_1 l0_1.length c0_1, .slice A1_1 l1_1.length c1_1] rfl ar_ ?_; (with_reducible refine (laws_eqIntSS.calls k _ _ l0_1 _ _ l1_1 false _ ?side1 ?side2 ?side3 ?side4 A4.out).mono ?_); (case side1 => exact cb_ HR0_1.out); (case side2 => exact HC0_1.out); (case side3 => exact cb_ HR1_1.out); (case side4 => exact HC1_1.out); rintro e w' ⟨rfl, ⟨nd, rfl⟩⟩; refine ⟨_, rfl, ?_⟩))
   go_ret
   exact ⟨er_, hb_⟩
 ·rw [if_neg c3] at H
  have c3b0 : (a0_0 == a1_0) = false := beq_eq_false_iff_ne.mpr c3
  have c3b1 : (a0_0 != a1_0) = true := bne_iff_ne.mpr c3
  obtain rfl := Option.some.inj H
  go_enter Try.func17, Try.ntmps17
  go_wp2_with (first | ((with_reducible refine Zr (N := 2) rfl ?_); refine Zu ?hg (N := 2) ?hd (cs := #[.int .i64 a0_0, .slice A0_1 l0_1.length c0_1]) (t := 27) ?hr ?_; (case hd => rfl); (case hg => rfl); (case hr => first | (go_simp; done) | (go_simp; rfl)); intro gb439 hg w16 hbox hb; have n0_ := Aside0.mk (Zf hb_ hb); have n1_ := Aside0.mk (hbox); have n2_ := Aside0.mk ((hz_ hg : w.heap.size ≤ gb439)); have n3_ := Aside0.mk ((hz_ hg : w.heap.size ≤ gb439)); clear HB; have HB := n0_; have BK439 := n1_; have GW439 := n2_; have GE439 := n3_; clear n0_ n1_ n2_ n3_; clear hb hbox hg) | ((with_reducible refine Zr (N := 3) rfl ?_); refine Zu ?hg (N := 3) ?hd (cs := #[.int .i64 a1_0, .slice A1_1 l1_1.length c1_1]) (t := 27) ?hr ?_; (case hd => rfl); (case hg => rfl); (case hr => first | (go_simp; done) | (go_simp; rfl)); intro gb440 hg w17 hbox hb; have n0_ := Aside0.mk (Zj (g := gb439) (o := .cells #[.int .i64 a0_0, .slice A0_1 l0_1.length c0_1] 27 (0, 0)) (bk_ BK439.out) hb); have n1_ := Aside0.mk (Zf hb_ hb); have n2_ := Aside0.mk (hbox); have n3_ := Aside0.mk ((hz_ hg : w.heap.size ≤ gb440)); have n4_ := Aside0.mk ((hz_ hg : w.heap.size ≤ gb440)); have n5_ := Aside0.mk ((by rw [hg]; exact Nat.ne_of_lt (blk_lt (g := gb439) (o := .cells #[.int .i64 a0_0, .slice A0_1 l0_1.length c0_1] 27 (0, 0)) (bk_ BK439.out)) : gb439 ≠ gb440)); have n6_ := Aside0.mk ((by rw [hg]; exact Nat.ne_of_gt (blk_lt (g := gb439) (o := .cells #[.int .i64 a0_0, .slice A0_1 l0_1.length c0_1] 27 (0, 0)) (bk_ BK439.out)) : gb440 ≠ gb439)); clear BK439; clear HB; have BK439 := n0_; have HB := n1_; have BK440 := n2_; have GW440 := n3_; have GE440 := n4_; have NB439_440 := n5_; have NB440_439 := n6_; clear n0_ n1_ n2_ n3_ n4_ n5_ n6_; clear hb hbox hg; have hnb18 := NB439_440.out; have hnc18 := NB440_439.out; have hcz19_0 : w17.cell? ⟨gb439, 0, none⟩ = some (.int .i64 a0_0) := (Ze BK439.out 0).trans rfl; have hcz19_1 : w17.cell? ⟨gb439, 1, none⟩ = some (.slice A0_1 l0_1.length c0_1) := (Ze BK439.out 1).trans rfl; have hfz19_0 := Zd BK439.out 0; have hfz19_1 := Zd BK439.out 1; have hcz20_0 : w17.cell? ⟨gb440, 0, none⟩ = some (.int .i64 a1_0) := (Ze BK440.out 0).trans rfl; have hcz20_1 : w17.cell? ⟨gb440, 1, none⟩ = some (.slice A1_1 l1_1.length c1_1) := (Ze BK440.out 1).trans rfl; have hfz20_0 := Zd BK440.out 0; have hfz20_1 := Zd BK440.out 1))
  go_ret
  exact ⟨er_, hb_⟩

/-! ### laws_FnExactIsCertain: function 3 -/
def laws_FnExactIsCertain.f (k : Nat) (a0_0 : Int) (l0_1 : List (List Int)) (a1 : Int) : Option (Bool) := (laws_szGraph.f k a0_0 l0_1 1048576).bind fun t443 => (if t443 < 0 then (some true) else ((laws_toGraph.f k a0_0 l0_1).bind fun bt444 => ((spec_IsCertain.f k bt444.1 bt444.2 a1).bind fun t448 => ((laws_toGraph.f k a0_0 l0_1).bind fun bt449 => ((impl_IsCertain.f k bt449.1 bt449.2 a1).bind fun t454 => (if (t454 != t448) = true then (some false) else ((laws_toGraph.f k a0_0 l0_1).bind fun bt455 => ((laws_eqGraph.f k bt449.1 bt449.2 bt455.1 bt455.2).bind fun t459 => (if t459 = true then (some true) else (some false))))))))))
theorem laws_FnExactIsCertain.mono : ∀ a0 a1 a2 k, LeO (laws_FnExactIsCertain.f k a0 a1 a2) (laws_FnExactIsCertain.f (k + 1) a0 a1 a2) := by
 intro a0 a1 a2 k
 unfold laws_FnExactIsCertain.f
 repeat' first
   | (with_reducible exact impl_IsCertain.mono _ _ _ _)
   | (with_reducible exact laws_eqGraph.mono _ _ _ _ _)
   | (with_reducible exact laws_szGraph.mono _ _ _ _)
   | (with_reducible exact laws_toGraph.mono _ _ _)
   | (with_reducible exact spec_IsCertain.mono _ _ _ _)
   | (with_reducible exact Zs _)
   | (with_reducible exact Zg _)
   | (with_reducible refine Zn ?_ ?_)
   | (with_reducible refine Zh ?_ (fun _ => ?_))
   | exact impl_IsCertain.mono _ _ _ _
   | exact laws_eqGraph.mono _ _ _ _ _
   | exact laws_szGraph.mono _ _ _ _
   | exact laws_toGraph.mono _ _ _
   | exact spec_IsCertain.mono _ _ _ _
   | exact Zg _
   | refine Zn ?_ ?_
   | refine Zh ?_ (fun _ => ?_)
set_option maxHeartbeats 8000000 in
set_option maxRecDepth 100000 in
theorem laws_FnExactIsCertain.calls (k : Nat) (a0_0 : Int) (A0_1 : Option Addr) (c0_1 : Nat) (l0_1 : List (List Int)) (a1 : Int) (r : Bool) (w : World) (hr0_1 : Kd.C (Kd.slice 3 (Kd.int .i64)) w A0_1 l0_1.length l0_1) (hc0_1 : l0_1.length ≤ c0_1) (h : laws_FnExactIsCertain.f k a0_0 l0_1 a1 = some r) :
  Calls Try.prog 3 #[.agg #[.int .i64 a0_0, .slice A0_1 l0_1.length c0_1], .int .i64 a1] w fun e w' => e = .returned (.bool r) ∧ Below w.heap.size w w' := by
 have hu24 := Try.underlying24
 have hu27 := Try.underlying27
 have HR0_1 := Aside0.mk hr0_1
 have HC0_1 := Aside0.mk hc0_1
 clear hr0_1 hc0_1
 have HB := Aside0.mk (Below.refl w.heap.size w)
 have H : ((laws_szGraph.f k a0_0 l0_1 1048576).bind fun t443 => (if t443 < 0 then (some true) else ((laws_toGraph.f k a0_0 l0_1).bind fun bt444 => ((spec_IsCertain.f k bt444.1 bt444.2 a1).bind fun t448 => ((laws_toGraph.f k a0_0 l0_1).bind fun bt449 => ((impl_IsCertain.f k bt449.1 bt449.2 a1).bind fun t454 => (if (t454 != t448) = true then (some false) else ((laws_toGraph.f k a0_0 l0_1).bind fun bt455 => ((laws_eqGraph.f k bt449.1 bt449.2 bt455.1 bt455.2).bind fun t459 => (if t459 = true then (some true) else (some false))))))))))) = some r := h
 clear h
 replace H := Option.bind_eq_some_iff.mp H
 obtain ⟨t443, A30, H⟩ := H
 replace H : (if t443 < 0 then (some true) else ((laws_toGraph.f k a0_0 l0_1).bind fun bt444 => ((spec_IsCertain.f k bt444.1 bt444.2 a1).bind fun t448 => ((laws_toGraph.f k a0_0 l0_1).bind fun bt449 => ((impl_IsCertain.f k bt449.1 bt449.2 a1).bind fun t454 => (if (t454 != t448) = true then (some false) else ((laws_toGraph.f k a0_0 l0_1).bind fun bt455 => ((laws_eqGraph.f k bt449.1 bt449.2 bt455.1 bt455.2).bind fun t459 => (if t459 = true then (some true) else (some false)))))))))) = some r := H
 have A3 := Aside0.mk A30
 clear A30
 by_cases c4 : t443 < 0
 ·rw [if_pos c4] at H
  have c4b0 : decide (t443 < 0) = true := decide_eq_true c4
  clear c4
  obtain rfl := Option.some.inj H
  go_enter Try.func3, Try.ntmps3
  go_wp2_with (first | ((with_reducible refine Zr (N := 2) rfl ?_); refine Zu ?hg (N := 2) ?hd (cs := #[.int .i64 a0_0, .slice A0_1 l0_1.length c0_1]) (t := 24) ?hr ?_; (case hd => rfl); (case hg => rfl); (case hr => first | (go_simp; done) | (go_simp; rfl)); intro gb442 hg w5 hbox hb; have n0_ := Aside0.mk (Zf hb_ hb); have n1_ := Aside0.mk (hbox); have n2_ := Aside0.mk ((hz_ hg : w.heap.size ≤ gb442)); have n3_ := Aside0.mk ((hz_ hg : w.heap.size ≤ gb442)); clear HB; have HB := n0_; have BK442 := n1_; have GW442 := n2_; have GE442 := n3_; clear n0_ n1_ n2_ n3_; clear hb hbox hg; have hcz6_0 : w5.cell? ⟨gb442, 0, none⟩ = some (.int .i64 a0_0) := (Ze BK442.out 0).trans rfl; have hcz6_1 : w5.cell? ⟨gb442, 1, none⟩ = some (.slice A0_1 l0_1.length c0_1) := (Ze BK442.out 1).trans rfl; have hfz6_0 := Zd BK442.out 0; have hfz6_1 := Zd BK442.out 1) | ((with_reducible refine Zl (f := 13) rfl ?_); refine Zx (some 11) rfl rfl Try.func13 (by kernel_rfl) rfl #[.agg #[.int .i64 a0_0, .slice A0_1 l0_1.length c0_1], .int .i64 1048576] rfl ar_ ?_; (with_reducible refine (laws_szGraph.calls k a0_0 _ _ l0_1 1048576 t443 _ ?side1 ?side2 A3.out).mono ?_); (case side1 => exact cb_ HR0_1.out); (case side2 => exact HC0_1.out); rintro e w7 ⟨rfl, hb⟩; refine ⟨_, rfl, ?_⟩; have n0_ := Aside0.mk (Zj (g := gb442) (o := .cells #[.int .i64 a0_0, .slice A0_1 l0_1.length c0_1] 24 (0, 0)) (bk_ BK442.out) hb); have n1_ := Aside0.mk (Zf hb_ hb); clear BK442; clear HB; have BK442 := n0_; have HB := n1_; clear n0_ n1_; (try clear hb); (try clear hb2); (try clear hk); (try clear hi)))
  all_goals go_ret
  all_goals exact ⟨er_, hb_⟩
 ·rw [if_neg c4] at H
  have c4b0 : decide (t443 < 0) = false := decide_eq_false c4
  clear c4
  replace H := Option.bind_eq_some_iff.mp H
  obtain ⟨⟨t444, t445⟩, A80, H⟩ := H
  replace H : ((spec_IsCertain.f k t444 t445 a1).bind fun t448 => ((laws_toGraph.f k a0_0 l0_1).bind fun bt449 => ((impl_IsCertain.f k bt449.1 bt449.2 a1).bind fun t454 => (if (t454 != t448) = true then (some false) else ((laws_toGraph.f k a0_0 l0_1).bind fun bt455 => ((laws_eqGraph.f k bt449.1 bt449.2 bt455.1 bt455.2).bind fun t459 => (if t459 = true then (some true) else (some false)))))))) = some r := H
  have A8 := Aside0.mk A80
  clear A80
  replace H := Option.bind_eq_some_iff.mp H
  obtain ⟨t448, A90, H⟩ := H
  replace H : ((laws_toGraph.f k a0_0 l0_1).bind fun bt449 => ((impl_IsCertain.f k bt449.1 bt449.2 a1).bind fun t454 => (if (t454 != t448) = true then (some false) else ((laws_toGraph.f k a0_0 l0_1).bind fun bt455 => ((laws_eqGraph.f k bt449.1 bt449.2 bt455.1 bt455.2).bind fun t459 => (if t459 = true then (some true) else (some false))))))) = some r := H
  have A9 := Aside0.mk A90
  clear A90
  replace H := Option.bind_eq_some_iff.mp H
  obtain ⟨⟨t449, t450⟩, A100, H⟩ := H
  replace H : ((impl_IsCertain.f k t449 t450 a1).bind fun t454 => (if (t454 != t448) = true then (some false) else ((laws_toGraph.f k a0_0 l0_1).bind fun bt455 => ((laws_eqGraph.f k t449 t450 bt455.1 bt455.2).bind fun t459 => (if t459 = true then (some true) else (some false)))))) = some r := H
  have A10 := Aside0.mk A100
  clear A100
  replace H := Option.bind_eq_some_iff.mp H
  obtain ⟨t454, A110, H⟩ := H
  replace H : (if (t454 != t448) = true then (some false) else ((laws_toGraph.f k a0_0 l0_1).bind fun bt455 => ((laws_eqGraph.f k t449 t450 bt455.1 bt455.2).bind fun t459 => (if t459 = true then (some true) else (some false))))) = some r := H
  have A11 := Aside0.mk A110
  clear A110
  by_cases c12 : (t454 != t448) = true
  ·rw [if_pos c12] at H
   have c12b0 : (t454 != t448) = true := c12
   (try (have c12b1 : decide (t454 = t448) = false := by simpa using c12))
   (try (have c12b2 : (t454 == t448) = false := by simpa using c12))
   (try (have c12b3 : ¬ (t454 = t448) := by simpa using c12))
   clear c12
   obtain rfl := Option.some.inj H
   go_enter Try.func3, Try.ntmps3
   go_wp2_with (first | ((with_reducible refine Zr (N := 2) rfl ?_); refine Zu ?hg (N := 2) ?hd (cs := #[.int .i64 a0_0, .slice A0_1 l0_1.length c0_1]) (t := 24) ?hr ?_; (case hd => rfl); (case hg => rfl); (case hr => first | (go_simp; done) | (go_simp; rfl)); intro gb442 hg w13 hbox hb; have n0_ := Aside0.mk (Zf hb_ hb); have n1_ := Aside0.mk (hbox); have n2_ := Aside0.mk ((hz_ hg : w.heap.size ≤ gb442)); have n3_ := Aside0.mk ((hz_ hg : w.heap.size ≤ gb442)); clear HB; have HB := n0_; have BK442 := n1_; have GW442 := n2_; have GE442 := n3_; clear n0_ n1_ n2_ n3_; clear hb hbox hg; have hcz14_0 : w13.cell? ⟨gb442, 0, none⟩ = some (.int .i64 a0_0) := (Ze BK442.out 0).trans rfl; have hcz14_1 : w13.cell? ⟨gb442, 1, none⟩ = some (.slice A0_1 l0_1.length c0_1) := (Ze BK442.out 1).trans rfl; have hfz14_0 := Zd BK442.out 0; have hfz14_1 := Zd BK442.out 1) | ((with_reducible refine Zl (f := 13) rfl ?_); refine Zx (some 11) rfl rfl Try.func13 (by kernel_rfl) rfl #[.agg #[.int .i64 a0_0, .slice A0_1 l0_1.length c0_1], .int .i64 1048576] rfl ar_ ?_; (with_reducible refine (laws_szGraph.calls k a0_0 _ _ l0_1 1048576 t443 _ ?side1 ?side2 A3.out).mono ?_); (case side1 => exact cb_ HR0_1.out); (case side2 => exact HC0_1.out); rintro e w15 ⟨rfl, hb⟩; refine ⟨_, rfl, ?_⟩; have n0_ := Aside0.mk (Zj (g := gb442) (o := .cells #[.int .i64 a0_0, .slice A0_1 l0_1.length c0_1] 24 (0, 0)) (bk_ BK442.out) hb); have n1_ := Aside0.mk (Zf hb_ hb); clear BK442; clear HB; have BK442 := n0_; have HB := n1_; clear n0_ n1_; (try clear hb); (try clear hb2); (try clear hk); (try clear hi); have hcz16_0 : w15.cell? ⟨gb442, 0, none⟩ = some (.int .i64 a0_0) := (Ze BK442.out 0).trans rfl; have hcz16_1 : w15.cell? ⟨gb442, 1, none⟩ = some (.slice A0_1 l0_1.length c0_1) := (Ze BK442.out 1).trans rfl; have hfz16_0 := Zd BK442.out 0; have hfz16_1 := Zd BK442.out 1) | ((with_reducible refine Zl (f := 15) rfl ?_); refine Zx (some 15) rfl rfl Try.func15 (by kernel_rfl) rfl #[.agg #[.int .i64 a0_0, .slice A0_1 l0_1.length c0_1]] rfl ar_ ?_; (with_reducible refine (laws_toGraph.calls k a0_0 _ _ l0_1 t444 t445 _ ?side1 ?side2 A8.out).mono ?_); (case side1 => exact cb_ HR0_1.out); (case side2 => exact HC0_1.out); rintro e w17 ⟨v446, rfl, ho0, hb⟩; refine ⟨_, rfl, ?_⟩; have n0_ := Aside0.mk (Kd.S_lower ho0 (Zi hb_)); have n1_ := Aside0.mk (Zj (g := gb442) (o := .cells #[.int .i64 a0_0, .slice A0_1 l0_1.length c0_1] 24 (0, 0)) (bk_ BK442.out) hb); have n2_ := Aside0.mk (Zf hb_ hb); clear BK442; clear HB; have HO447 := n0_; have BK442 := n1_; have HB := n2_; clear n0_ n1_ n2_; (try clear hb); (try clear hb2); (try clear hk); (try clear hi); (try clear ho0); obtain ⟨Ao18, co18, eo18⟩ := Kd.S_slice HO447.out; subst eo18) | ((with_reducible refine Zl (f := 14) rfl ?_); refine Zx (some 17) rfl rfl Try.func14 (by kernel_rfl) rfl #[.agg #[.int .i64 t444, .slice Ao18 t445.length co18], .int .i64 a1] rfl ar_ ?_; (with_reducible refine (spec_IsCertain.calls k t444 _ _ t445 a1 t448 _ ?side1 ?side2 A9.out).mono ?_); (case side1 => repeat (first | exact (Kd.S_reads' HO447.out).2.2 | (with_reducible refine Zv ?_ _) | (with_reducible refine Zt ?_ _) | (with_reducible refine Zy ?_))); (case side2 => exact (Kd.S_reads' HO447.out).2.1); rintro e w19 ⟨rfl, hb⟩; refine ⟨_, rfl, ?_⟩; have n0_ := Aside0.mk (Kd.S_below (rS_ HO447.out) hb); have n1_ := Aside0.mk (Zj (g := gb442) (o := .cells #[.int .i64 a0_0, .slice A0_1 l0_1.length c0_1] 24 (0, 0)) (bk_ BK442.out) hb); have n2_ := Aside0.mk (Zf hb_ hb); clear HO447; clear BK442; clear HB; have HO447 := n0_; have BK442 := n1_; have HB := n2_; clear n0_ n1_ n2_; (try clear hb); (try clear hb2); (try clear hk); (try clear hi); have hcz20_0 : w19.cell? ⟨gb442, 0, none⟩ = some (.int .i64 a0_0) := (Ze BK442.out 0).trans rfl; have hcz20_1 : w19.cell? ⟨gb442, 1, none⟩ = some (.slice A0_1 l0_1.length c0_1) := (Ze BK442.out 1).trans rfl; have hfz20_0 := Zd BK442.out 0; have hfz20_1 := Zd BK442.out 1) | ((with_reducible refine Zl (f := 15) rfl ?_); refine Zx (some 19) rfl rfl Try.func15 (by kernel_rfl) rfl #[.agg #[.int .i64 a0_0, .slice A0_1 l0_1.length c0_1]] rfl ar_ ?_; (with_reducible refine (laws_toGraph.calls k a0_0 _ _ l0_1 t449 t450 _ ?side1 ?side2 A10.out).mono ?_); (case side1 => exact cb_ HR0_1.out); (case side2 => exact HC0_1.out); rintro e w21 ⟨v451, rfl, ho0, hb⟩; refine ⟨_, rfl, ?_⟩; have n0_ := Aside0.mk (Kd.S_elder' (rS_ HO447.out) (Kd.S_base ho0) hb); have n1_ := Aside0.mk (Kd.S_lower (Kd.S_new' ho0 (Kd.S_lt (rS_ HO447.out))) (Zi hb_)); have n2_ := Aside0.mk (Zj (g := gb442) (o := .cells #[.int .i64 a0_0, .slice A0_1 l0_1.length c0_1] 24 (0, 0)) (bk_ BK442.out) hb); have n3_ := Aside0.mk (Zf hb_ hb); clear HO447; clear BK442; clear HB; have HO447 := n0_; have HO452 := n1_; have BK442 := n2_; have HB := n3_; clear n0_ n1_ n2_ n3_; (try clear hb); (try clear hb2); (try clear hk); (try clear hi); (try clear ho0)) | ((with_reducible refine Zr (N := 7) rfl ?_); refine Zu ?hg (N := 7) ?hd (cs := #[.int .i64 0, .slice none 0 0]) (t := 27) ?hr ?_; (case hd => rfl); (case hg => rfl); (case hr => first | (go_simp; done) | (go_simp; rfl)); intro gb453 hg w22 hbox hb; have n0_ := Aside0.mk (Kd.S_below (rS_ HO447.out) hb); have n1_ := Aside0.mk (Kd.S_below (rS_ HO452.out) hb); have n2_ := Aside0.mk (Zj (g := gb442) (o := .cells #[.int .i64 a0_0, .slice A0_1 l0_1.length c0_1] 24 (0, 0)) (bk_ BK442.out) hb); have n3_ := Aside0.mk (Zf hb_ hb); have n4_ := Aside0.mk (hbox); have n5_ := Aside0.mk ((hz_ hg : w.heap.size ≤ gb453)); have n6_ := Aside0.mk ((hz_ hg : w.heap.size ≤ gb453)); have n7_ := Aside0.mk ((by rw [hg]; exact Nat.ne_of_lt (blk_lt (g := gb442) (o := .cells #[.int .i64 a0_0, .slice A0_1 l0_1.length c0_1] 24 (0, 0)) (bk_ BK442.out)) : gb442 ≠ gb453)); have n8_ := Aside0.mk ((by rw [hg]; exact Nat.ne_of_gt (blk_lt (g := gb442) (o := .cells #[.int .i64 a0_0, .slice A0_1 l0_1.length c0_1] 24 (0, 0)) (bk_ BK442.out)) : gb453 ≠ gb442)); clear HO447; clear HO452; clear BK442; clear HB; have HO447 := n0_; have HO452 := n1_; have BK442 := n2_; have HB := n3_; have BK453 := n4_; have GW453 := n5_; have GE453 := n6_; have NB442_453 := n7_; have NB453_442 := n8_; clear n0_ n1_ n2_ n3_ n4_ n5_ n6_ n7_ n8_; clear hb hbox hg; have hnb23 := NB453_442.out; have hnc23 := NB442_453.out; have hcz24_0 : w22.cell? ⟨gb453, 0, none⟩ = some (.int .i64 0) := (Ze BK453.out 0).trans rfl; have hcz24_1 : w22.cell? ⟨gb453, 1, none⟩ = some (.slice none 0 0) := (Ze BK453.out 1).trans rfl; have hfz24_0 := Zd BK453.out 0; have hfz24_1 := Zd BK453.out 1; obtain ⟨Ao25, co25, eo25⟩ := Kd.S_slice HO452.out; subst eo25) | ((with_reducible refine Zl (f := 16) rfl ?_); refine Zx (some 22) rfl rfl Try.func16 (by kernel_rfl) rfl #[.agg #[.int .i64 t449, .slice Ao25 t450.length co25], .int .i64 a1] rfl ar_ ?_; (with_reducible refine (impl_IsCertain.calls k t449 _ _ t450 a1 t454 _ ?side1 ?side2 A11.out).mono ?_); (case side1 => refine (Kd.S_reads' (e := 38) (base := w.heap.size) (ok := fun k_ => (True ∧ some k_ ≠ (.slice Ao18 t445.length co18 : Value).ownBlock)) (n := t450.length) (c := co25) ?_).2.2; exact (by (with_reducible repeat (first | apply Kd.S_alloc | apply Kd.S_drewN | apply Kd.S_drew)); exact (Kd.S_mono (Kd.S_far (p := ⟨gb453, 1, none⟩) (Kd.S_far (p := ⟨gb453, 0, none⟩) (Kd.S_types HO452.out BK453.out (by decide)) (fun _ hk => hk.2) (.int .i64 t449)) (fun _ hk => hk.2) (.slice Ao25 t450.length co25)) (fun _ h_ => h_.1)))); (case side2 => exact (Kd.S_reads' HO452.out).2.1); rintro e w26 ⟨rfl, hb⟩; refine ⟨_, rfl, ?_⟩; have n0_ := Aside0.mk (Kd.S_below (by (with_reducible repeat (first | apply Kd.S_alloc | apply Kd.S_drewN | apply Kd.S_drew)); exact (Kd.S_mono (Kd.S_far (p := ⟨gb453, 1, none⟩) (Kd.S_far (p := ⟨gb453, 0, none⟩) (Kd.S_types HO447.out BK453.out (by decide)) (fun _ hk => hk.2) (.int .i64 t449)) (fun _ hk => hk.2) (.slice Ao25 t450.length co25)) (fun _ h_ => h_.1))) hb); have n1_ := Aside0.mk (Kd.S_below (by (with_reducible repeat (first | apply Kd.S_alloc | apply Kd.S_drewN | apply Kd.S_drew)); exact (Kd.S_mono (Kd.S_far (p := ⟨gb453, 1, none⟩) (Kd.S_far (p := ⟨gb453, 0, none⟩) (Kd.S_types HO452.out BK453.out (by decide)) (fun _ hk => hk.2) (.int .i64 t449)) (fun _ hk => hk.2) (.slice Ao25 t450.length co25)) (fun _ h_ => h_.1))) hb); have n2_ := Aside0.mk (Zj (g := gb442) (o := .cells #[.int .i64 a0_0, .slice A0_1 l0_1.length c0_1] 24 (0, 0)) (by (with_reducible repeat (first | refine blk_drewN ?_ _ | refine blk_drew ?_ | refine blk_alloc ?_ _)); refine blk_far ?_ NB442_453.out _; (with_reducible repeat (first | refine blk_drewN ?_ _ | refine blk_drew ?_ | refine blk_alloc ?_ _)); refine blk_far ?_ NB442_453.out _; (with_reducible repeat (first | refine blk_drewN ?_ _ | refine blk_drew ?_ | refine blk_alloc ?_ _)); exact BK442.out) hb); have n3_ := Aside0.mk (Zj (g := gb453) (o := .cells #[.int .i64 t449, .slice Ao25 t450.length co25] 27 (0, 0)) (by (with_reducible repeat (first | refine blk_drewN ?_ _ | refine blk_drew ?_ | refine blk_alloc ?_ _)); refine blk_put (cs := #[.int .i64 t449, .slice none 0 0]) ?_ 1 _ rfl; (with_reducible repeat (first | refine blk_drewN ?_ _ | refine blk_drew ?_ | refine blk_alloc ?_ _)); refine blk_put (cs := #[.int .i64 0, .slice none 0 0]) ?_ 0 _ rfl; (with_reducible repeat (first | refine blk_drewN ?_ _ | refine blk_drew ?_ | refine blk_alloc ?_ _)); exact BK453.out) hb); have n4_ := Aside0.mk (Zf hb_ hb); clear HO447; clear HO452; clear BK442; clear BK453; clear HB; have HO447 := n0_; have HO452 := n1_; have BK442 := n2_; have BK453 := n3_; have HB := n4_; clear n0_ n1_ n2_ n3_ n4_; (try clear hb); (try clear hb2); (try clear hk); (try clear hi)))
   all_goals go_ret
   all_goals exact ⟨er_, hb_⟩
  ·rw [if_neg c12] at H
   have c12b0 : (t454 != t448) = false := by simpa using c12
   (try (have c12b1 : decide (t454 = t448) = true := by simpa using c12))
   (try (have c12b2 : (t454 == t448) = true := by simpa using c12))
   clear c12
   replace H := Option.bind_eq_some_iff.mp H
   obtain ⟨⟨t455, t456⟩, A270, H⟩ := H
   replace H : ((laws_eqGraph.f k t449 t450 t455 t456).bind fun t459 => (if t459 = true then (some true) else (some false))) = some r := H
   have A27 := Aside0.mk A270
   clear A270
   replace H := Option.bind_eq_some_iff.mp H
   obtain ⟨t459, A280, H⟩ := H
   replace H : (if t459 = true then (some true) else (some false)) = some r := H
   have A28 := Aside0.mk A280
   clear A280
   by_cases c29 : t459 = true
   ·subst c29
    have H1 : (some true) = some r := by rw [if_pos rfl] at H; exact H
    clear H
    have H := H1
    clear H1
    obtain rfl := Option.some.inj H
    go_enter Try.func3, Try.ntmps3
    try go_wp2_with (first | ((with_reducible refine Zr (N := 2) rfl ?_); refine Zu ?hg (N := 2) ?hd (cs := #[.int .i64 a0_0, .slice A0_1 l0_1.length c0_1]) (t := 24) ?hr ?_; (case hd => rfl); (case hg => rfl); (case hr => first | (go_simp; done) | (go_simp; rfl)); intro gb442 hg w30 hbox hb; have n0_ := Aside0.mk (Zf hb_ hb); have n1_ := Aside0.mk (hbox); have n2_ := Aside0.mk ((hz_ hg : w.heap.size ≤ gb442)); have n3_ := Aside0.mk ((hz_ hg : w.heap.size ≤ gb442)); clear HB; have HB := n0_; have BK442 := n1_; have GW442 := n2_; have GE442 := n3_; clear n0_ n1_ n2_ n3_; clear hb hbox hg; have hcz31_0 : w30.cell? ⟨gb442, 0, none⟩ = some (.int .i64 a0_0) := (Ze BK442.out 0).trans rfl; have hcz31_1 : w30.cell? ⟨gb442, 1, none⟩ = some (.slice A0_1 l0_1.length c0_1) := (Ze BK442.out 1).trans rfl; have hfz31_0 := Zd BK442.out 0; have hfz31_1 := Zd BK442.out 1) | ((with_reducible refine Zl (f := 13) rfl ?_); refine Zx (some 11) rfl rfl Try.func13 (by kernel_rfl) rfl #[.agg #[.int .i64 a0_0, .slice A0_1 l0_1.length c0_1], .int .i64 1048576] rfl ar_ ?_; (with_reducible refine (laws_szGraph.calls k a0_0 _ _ l0_1 1048576 t443 _ ?side1 ?side2 A3.out).mono ?_); (case side1 => exact cb_ HR0_1.out); (case side2 => exact HC0_1.out); rintro e w32 ⟨rfl, hb⟩; refine ⟨_, rfl, ?_⟩; have n0_ := Aside0.mk (Zj (g := gb442) (o := .cells #[.int .i64 a0_0, .slice A0_1 l0_1.length c0_1] 24 (0, 0)) (bk_ BK442.out) hb); have n1_ := Aside0.mk (Zf hb_ hb); clear BK442; clear HB; have BK442 := n0_; have HB := n1_; clear n0_ n1_; (try clear hb); (try clear hb2); (try clear hk); (try clear hi); have hcz33_0 : w32.cell? ⟨gb442, 0, none⟩ = some (.int .i64 a0_0) := (Ze BK442.out 0).trans rfl; have hcz33_1 : w32.cell? ⟨gb442, 1, none⟩ = some (.slice A0_1 l0_1.length c0_1) := (Ze BK442.out 1).trans rfl; have hfz33_0 := Zd BK442.out 0; have hfz33_1 := Zd BK442.out 1) | ((with_reducible refine Zl (f := 15) rfl ?_); refine Zx (some 15) rfl rfl Try.func15 (by kernel_rfl) rfl #[.agg #[.int .i64 a0_0, .slice A0_1 l0_1.length c0_1]] rfl ar_ ?_; (with_reducible refine (laws_toGraph.calls k a0_0 _ _ l0_1 t444 t445 _ ?side1 ?side2 A8.out).mono ?_); (case side1 => exact cb_ HR0_1.out); (case side2 => exact HC0_1.out); rintro e w34 ⟨v446, rfl, ho0, hb⟩; refine ⟨_, rfl, ?_⟩; have n0_ := Aside0.mk (Kd.S_lower ho0 (Zi hb_)); have n1_ := Aside0.mk (Zj (g := gb442) (o := .cells #[.int .i64 a0_0, .slice A0_1 l0_1.length c0_1] 24 (0, 0)) (bk_ BK442.out) hb); have n2_ := Aside0.mk (Zf hb_ hb); clear BK442; clear HB; have HO447 := n0_; have BK442 := n1_; have HB := n2_; clear n0_ n1_ n2_; (try clear hb); (try clear hb2); (try clear hk); (try clear hi); (try clear ho0); obtain ⟨Ao35, co35, eo35⟩ := Kd.S_slice HO447.out; subst eo35) | ((with_reducible refine Zl (f := 14) rfl ?_); refine Zx (some 17) rfl rfl Try.func14 (by kernel_rfl) rfl #[.agg #[.int .i64 t444, .slice Ao35 t445.length co35], .int .i64 a1] rfl ar_ ?_; (with_reducible refine (spec_IsCertain.calls k t444 _ _ t445 a1 t448 _ ?side1 ?side2 A9.out).mono ?_); (case side1 => repeat (first | exact (Kd.S_reads' HO447.out).2.2 | (with_reducible refine Zv ?_ _) | (with_reducible refine Zt ?_ _) | (with_reducible refine Zy ?_))); (case side2 => exact (Kd.S_reads' HO447.out).2.1); rintro e w36 ⟨rfl, hb⟩; refine ⟨_, rfl, ?_⟩; have n0_ := Aside0.mk (Kd.S_below (rS_ HO447.out) hb); have n1_ := Aside0.mk (Zj (g := gb442) (o := .cells #[.int .i64 a0_0, .slice A0_1 l0_1.length c0_1] 24 (0, 0)) (bk_ BK442.out) hb); have n2_ := Aside0.mk (Zf hb_ hb); clear HO447; clear BK442; clear HB; have HO447 := n0_; have BK442 := n1_; have HB := n2_; clear n0_ n1_ n2_; (try clear hb); (try clear hb2); (try clear hk); (try clear hi); have hcz37_0 : w36.cell? ⟨gb442, 0, none⟩ = some (.int .i64 a0_0) := (Ze BK442.out 0).trans rfl; have hcz37_1 : w36.cell? ⟨gb442, 1, none⟩ = some (.slice A0_1 l0_1.length c0_1) := (Ze BK442.out 1).trans rfl; have hfz37_0 := Zd BK442.out 0; have hfz37_1 := Zd BK442.out 1) | ((with_reducible refine Zl (f := 15) rfl ?_); refine Zx (some 19) rfl rfl Try.func15 (by kernel_rfl) rfl #[.agg #[.int .i64 a0_0, .slice A0_1 l0_1.length c0_1]] rfl ar_ ?_; (with_reducible refine (laws_toGraph.calls k a0_0 _ _ l0_1 t449 t450 _ ?side1 ?side2 A10.out).mono ?_); (case side1 => exact cb_ HR0_1.out); (case side2 => exact HC0_1.out); rintro e w38 ⟨v451, rfl, ho0, hb⟩; refine ⟨_, rfl, ?_⟩; have n0_ := Aside0.mk (Kd.S_elder' (rS_ HO447.out) (Kd.S_base ho0) hb); have n1_ := Aside0.mk (Kd.S_lower (Kd.S_new' ho0 (Kd.S_lt (rS_ HO447.out))) (Zi hb_)); have n2_ := Aside0.mk (Zj (g := gb442) (o := .cells #[.int .i64 a0_0, .slice A0_1 l0_1.length c0_1] 24 (0, 0)) (bk_ BK442.out) hb); have n3_ := Aside0.mk (Zf hb_ hb); clear HO447; clear BK442; clear HB; have HO447 := n0_; have HO452 := n1_; have BK442 := n2_; have HB := n3_; clear n0_ n1_ n2_ n3_; (try clear hb); (try clear hb2); (try clear hk); (try clear hi); (try clear ho0)) | ((with_reducible refine Zr (N := 7) rfl ?_); refine Zu ?hg (N := 7) ?hd (cs := #[.int .i64 0, .slice none 0 0]) (t := 27) ?hr ?_; (case hd => rfl); (case hg => rfl); (case hr => first | (go_simp; done) | (go_simp; rfl)); intro gb453 hg w39 hbox hb; have n0_ := Aside0.mk (Kd.S_below (rS_ HO447.out) hb); have n1_ := Aside0.mk (Kd.S_below (rS_ HO452.out) hb); have n2_ := Aside0.mk (Zj (g := gb442) (o := .cells #[.int .i64 a0_0, .slice A0_1 l0_1.length c0_1] 24 (0, 0)) (bk_ BK442.out) hb); have n3_ := Aside0.mk (Zf hb_ hb); have n4_ := Aside0.mk (hbox); have n5_ := Aside0.mk ((hz_ hg : w.heap.size ≤ gb453)); have n6_ := Aside0.mk ((hz_ hg : w.heap.size ≤ gb453)); have n7_ := Aside0.mk ((by rw [hg]; exact Nat.ne_of_lt (blk_lt (g := gb442) (o := .cells #[.int .i64 a0_0, .slice A0_1 l0_1.length c0_1] 24 (0, 0)) (bk_ BK442.out)) : gb442 ≠ gb453)); have n8_ := Aside0.mk ((by rw [hg]; exact Nat.ne_of_gt (blk_lt (g := gb442) (o := .cells #[.int .i64 a0_0, .slice A0_1 l0_1.length c0_1] 24 (0, 0)) (bk_ BK442.out)) : gb453 ≠ gb442)); clear HO447; clear HO452; clear BK442; clear HB; have HO447 := n0_; have HO452 := n1_; have BK442 := n2_; have HB := n3_; have BK453 := n4_; have GW453 := n5_; have GE453 := n6_; have NB442_453 := n7_; have NB453_442 := n8_; clear n0_ n1_ n2_ n3_ n4_ n5_ n6_ n7_ n8_; clear hb hbox hg; have hnb40 := NB453_442.out; have hnc40 := NB442_453.out; have hcz41_0 : w39.cell? ⟨gb453, 0, none⟩ = some (.int .i64 0) := (Ze BK453.out 0).trans rfl; have hcz41_1 : w39.cell? ⟨gb453, 1, none⟩ = some (.slice none 0 0) := (Ze BK453.out 1).trans rfl; have hfz41_0 := Zd BK453.out 0; have hfz41_1 := Zd BK453.out 1; obtain ⟨Ao42, co42, eo42⟩ := Kd.S_slice HO452.out; subst eo42) | ((with_reducible refine Zl (f := 16) rfl ?_); refine Zx (some 22) rfl rfl Try.func16 (by kernel_rfl) rfl #[.agg #[.int .i64 t449, .slice Ao42 t450.length co42], .int .i64 a1] rfl ar_ ?_; (with_reducible refine (impl_IsCertain.calls k t449 _ _ t450 a1 t454 _ ?side1 ?side2 A11.out).mono ?_); (case side1 => refine (Kd.S_reads' (e := 38) (base := w.heap.size) (ok := fun k_ => (True ∧ some k_ ≠ (.slice Ao35 t445.length co35 : Value).ownBlock)) (n := t450.length) (c := co42) ?_).2.2; exact (by (with_reducible repeat (first | apply Kd.S_alloc | apply Kd.S_drewN | apply Kd.S_drew)); exact (Kd.S_mono (Kd.S_far (p := ⟨gb453, 1, none⟩) (Kd.S_far (p := ⟨gb453, 0, none⟩) (Kd.S_types HO452.out BK453.out (by decide)) (fun _ hk => hk.2) (.int .i64 t449)) (fun _ hk => hk.2) (.slice Ao42 t450.length co42)) (fun _ h_ => h_.1)))); (case side2 => exact (Kd.S_reads' HO452.out).2.1); rintro e w43 ⟨rfl, hb⟩; refine ⟨_, rfl, ?_⟩; have n0_ := Aside0.mk (Kd.S_below (by (with_reducible repeat (first | apply Kd.S_alloc | apply Kd.S_drewN | apply Kd.S_drew)); exact (Kd.S_mono (Kd.S_far (p := ⟨gb453, 1, none⟩) (Kd.S_far (p := ⟨gb453, 0, none⟩) (Kd.S_types HO447.out BK453.out (by decide)) (fun _ hk => hk.2) (.int .i64 t449)) (fun _ hk => hk.2) (.slice Ao42 t450.length co42)) (fun _ h_ => h_.1))) hb); have n1_ := Aside0.mk (Kd.S_below (by (with_reducible repeat (first | apply Kd.S_alloc | apply Kd.S_drewN | apply Kd.S_drew)); exact (Kd.S_mono (Kd.S_far (p := ⟨gb453, 1, none⟩) (Kd.S_far (p := ⟨gb453, 0, none⟩) (Kd.S_types HO452.out BK453.out (by decide)) (fun _ hk => hk.2) (.int .i64 t449)) (fun _ hk => hk.2) (.slice Ao42 t450.length co42)) (fun _ h_ => h_.1))) hb); have n2_ := Aside0.mk (Zj (g := gb442) (o := .cells #[.int .i64 a0_0, .slice A0_1 l0_1.length c0_1] 24 (0, 0)) (by (with_reducible repeat (first | refine blk_drewN ?_ _ | refine blk_drew ?_ | refine blk_alloc ?_ _)); refine blk_far ?_ NB442_453.out _; (with_reducible repeat (first | refine blk_drewN ?_ _ | refine blk_drew ?_ | refine blk_alloc ?_ _)); refine blk_far ?_ NB442_453.out _; (with_reducible repeat (first | refine blk_drewN ?_ _ | refine blk_drew ?_ | refine blk_alloc ?_ _)); exact BK442.out) hb); have n3_ := Aside0.mk (Zj (g := gb453) (o := .cells #[.int .i64 t449, .slice Ao42 t450.length co42] 27 (0, 0)) (by (with_reducible repeat (first | refine blk_drewN ?_ _ | refine blk_drew ?_ | refine blk_alloc ?_ _)); refine blk_put (cs := #[.int .i64 t449, .slice none 0 0]) ?_ 1 _ rfl; (with_reducible repeat (first | refine blk_drewN ?_ _ | refine blk_drew ?_ | refine blk_alloc ?_ _)); refine blk_put (cs := #[.int .i64 0, .slice none 0 0]) ?_ 0 _ rfl; (with_reducible repeat (first | refine blk_drewN ?_ _ | refine blk_drew ?_ | refine blk_alloc ?_ _)); exact BK453.out) hb); have n4_ := Aside0.mk (Zf hb_ hb); clear HO447; clear HO452; clear BK442; clear BK453; clear HB; have HO447 := n0_; have HO452 := n1_; have BK442 := n2_; have BK453 := n3_; have HB := n4_; clear n0_ n1_ n2_ n3_ n4_; (try clear hb); (try clear hb2); (try clear hk); (try clear hi)))
    have n0_ := Aside0.mk (Kd.S_drew HO447.out)
    have n1_ := Aside0.mk (Kd.S_drew HO452.out)
    have n2_ := Aside0.mk (blk_drew BK442.out)
    have n3_ := Aside0.mk (blk_drew BK453.out)
    have n4_ := Aside0.mk (below_drew1 HB.out)
    clear HO447
    clear HO452
    clear BK442
    clear BK453
    clear HB
    have HO447 := n0_
    have HO452 := n1_
    have BK442 := n2_
    have BK453 := n3_
    have HB := n4_
    clear n0_ n1_ n2_ n3_ n4_
    refine start_ (n := 5) (S := fun w' => w'.cell? ⟨gb453, 0, none⟩ = some (.int .i64 t449) ∧ w'.cell? ⟨gb453, 1, none⟩ = some (.slice Ao42 t450.length co42) ∧ w'.cell? ⟨gb442, 0, none⟩ = some (.int .i64 a0_0) ∧ w'.cell? ⟨gb442, 1, none⟩ = some (.slice A0_1 l0_1.length c0_1)) (ds := []) #[O,O,O,O,O] (by kernel_rfl) rfl rfl ⟨(Ze BK453.out 0).trans rfl, (Ze BK453.out 1).trans rfl, (Ze BK442.out 0).trans rfl, (Ze BK442.out 1).trans rfl⟩ (fun hHeld => ?_)
    generalize w43.drew = w44 at HO447 HO452 BK442 BK453 HB hHeld ⊢
    refine take_ (i := 0) (N := some 26) (v := ?_) (a' := ?_) #[Y,O,O,O,O] rfl rfl (by kernel_rfl) (fun _ _ _ h => h) (Or.inl ⟨by rfl, ?_⟩) hHeld ?_ ?_
    rotate_left
    ·rintro w' ⟨s0, s1, s2, s3⟩
     go_simp
     with_reducible rfl
    rotate_left
    ·simp only [Act.put, Za, Zb, Zc, Zk, Zm]
     rfl
    refine take_ (i := 1) (N := some 27) (v := ?_) (a' := ?_) #[Y,Y,O,O,O] rfl rfl (by kernel_rfl) (fun _ _ _ h => h) (Or.inl ⟨by rfl, ?_⟩) hHeld ?_ ?_
    rotate_left
    ·rintro w' ⟨s0, s1, s2, s3⟩
     go_simp
     with_reducible rfl
    rotate_left
    ·simp only [Act.put, Za, Zb, Zc, Zk, Zm]
     rfl
    refine one_ (i := 2) (N := some 28) #[Y,Y,Y,O,O] rfl rfl (by kernel_rfl) (by decide) (fun K hK => ?_)
    refine goes_ Try.func15 (by kernel_rfl) rfl #[.agg #[.int .i64 a0_0, .slice A0_1 l0_1.length c0_1]] (by rfl) rfl rfl ar_ ?_
    with_reducible refine (laws_toGraph.calls k a0_0 _ _ l0_1 t455 t456 _ ?side1 ?side2 A27.out).mono ?_
    (case side1 => exact cb_ HR0_1.out)
    (case side2 => exact HC0_1.out)
    rintro e w45 ⟨v457, rfl, ho0, hb⟩
    refine ⟨_, rfl, ?_⟩
    have n0_ := Aside0.mk (Kd.S_elder' (rS_ HO447.out) (Kd.S_base ho0) hb)
    have n1_ := Aside0.mk (Kd.S_elder' (rS_ HO452.out) (Kd.S_base ho0) hb)
    have n2_ := Aside0.mk (Kd.S_lower (Kd.S_new' (Kd.S_new' ho0 (Kd.S_lt (rS_ HO447.out))) (Kd.S_lt (rS_ HO452.out))) (Zi hb_))
    have n3_ := Aside0.mk (Zj (g := gb442) (o := .cells #[.int .i64 a0_0, .slice A0_1 l0_1.length c0_1] 24 (0, 0)) (bk_ BK442.out) hb)
    have n4_ := Aside0.mk (Zj (g := gb453) (o := .cells #[.int .i64 t449, .slice Ao42 t450.length co42] 27 (0, 0)) (bk_ BK453.out) hb)
    have n5_ := Aside0.mk (Zf hb_ hb)
    clear HO447
    clear HO452
    clear BK442
    clear BK453
    clear HB
    have HO447 := n0_
    have HO452 := n1_
    have HO458 := n2_
    have BK442 := n3_
    have BK453 := n4_
    have HB := n5_
    clear n0_ n1_ n2_ n3_ n4_ n5_
    (try clear hb)
    (try clear hb2)
    (try clear hk)
    (try clear hi)
    (try clear ho0)
    obtain ⟨Ao46, co46, eo46⟩ := Kd.S_slice HO458.out
    (first | subst eo46 | (injection eo46 with f1_ f2_ f3_; have f4_ := f1_.symm; have f5_ := f3_.symm; clear f1_ f2_ f3_; subst f4_; subst f5_))
    refine hK.out _ _ ⟨(Ze BK453.out 0).trans rfl, (Ze BK453.out 1).trans rfl, (Ze BK442.out 0).trans rfl, (Ze BK442.out 1).trans rfl⟩ (fun hHeld => ?_)
    clear hK K
    refine norm_ (a' := ?_) ?_ ?_
    rotate_left
    ·show Act.put _ (some 28) _ = _
     simp only [Act.put, Za, Zb, Zc, Zk, Zm]
     rfl
    refine one_ (i := 3) (N := some 29) #[Y,Y,Y,Y,O] rfl rfl (by kernel_rfl) (by decide) (fun K hK => ?_)
    refine goes_ Try.func17 (by kernel_rfl) rfl #[.agg #[.int .i64 t449, .slice Ao42 t450.length co42], .agg #[.int .i64 t455, .slice Ao46 t456.length co46]] (by rfl) rfl rfl ar_ ?_
    with_reducible refine (laws_eqGraph.calls k t449 _ _ t450 t455 _ _ t456 true _ ?side1 ?side2 ?side3 ?side4 A28.out).mono ?_
    (case side1 => repeat (first | exact (Kd.S_reads' HO452.out).2.2 | (with_reducible refine Zv ?_ _) | (with_reducible refine Zt ?_ _) | (with_reducible refine Zy ?_)))
    (case side2 => exact (Kd.S_reads' HO452.out).2.1)
    (case side3 => repeat (first | exact (Kd.S_reads' HO458.out).2.2 | (with_reducible refine Zv ?_ _) | (with_reducible refine Zt ?_ _) | (with_reducible refine Zy ?_)))
    (case side4 => exact (Kd.S_reads' HO458.out).2.1)
    rintro e w47 ⟨rfl, hb⟩
    refine ⟨_, rfl, ?_⟩
    have n0_ := Aside0.mk (Kd.S_below (rS_ HO447.out) hb)
    have n1_ := Aside0.mk (Kd.S_below (rS_ HO452.out) hb)
    have n2_ := Aside0.mk (Kd.S_below (rS_ HO458.out) hb)
    have n3_ := Aside0.mk (Zj (g := gb442) (o := .cells #[.int .i64 a0_0, .slice A0_1 l0_1.length c0_1] 24 (0, 0)) (bk_ BK442.out) hb)
    have n4_ := Aside0.mk (Zj (g := gb453) (o := .cells #[.int .i64 t449, .slice Ao42 t450.length co42] 27 (0, 0)) (bk_ BK453.out) hb)
    have n5_ := Aside0.mk (Zf hb_ hb)
    clear HO447
    clear HO452
    clear HO458
    clear BK442
    clear BK453
    clear HB
    have HO447 := n0_
    have HO452 := n1_
    have HO458 := n2_
    have BK442 := n3_
    have BK453 := n4_
    have HB := n5_
    clear n0_ n1_ n2_ n3_ n4_ n5_
    (try clear hb)
    (try clear hb2)
    (try clear hk)
    (try clear hi)
    refine hK.out _ _ ⟨(Ze BK453.out 0).trans rfl, (Ze BK453.out 1).trans rfl, (Ze BK442.out 0).trans rfl, (Ze BK442.out 1).trans rfl⟩ (fun hHeld => ?_)
    clear hK K
    refine norm_ (a' := ?_) ?_ ?_
    rotate_left
    ·show Act.put _ (some 29) _ = _
     simp only [Act.put, Za, Zb, Zc, Zk, Zm]
     rfl
    refine Zq (i := 4) (N := some 30) (v := ?_) (a' := ?_) #[Y,Y,Y,Y,Y] rfl rfl (by kernel_rfl) (fun _ _ _ h => h) (Or.inl ⟨by rfl, ?_⟩) ?_ ?_
    rotate_left
    ·intro w'
     go_simp
     with_reducible rfl
    rotate_left
    ·simp only [Act.put, Za, Zb, Zc, Zk, Zm]
     rfl
    refine done_ (by kernel_rfl) ?_
    try go_wp2
    all_goals go_ret
    all_goals exact ⟨er_, hb_⟩
   ·replace c29 := Bool.eq_false_iff.mpr c29
    subst c29
    have H1 : (some false) = some r := by rw [if_neg (show ¬ (false = true) by decide)] at H; exact H
    clear H
    have H := H1
    clear H1
    obtain rfl := Option.some.inj H
    go_enter Try.func3, Try.ntmps3
    try go_wp2_with (first | ((with_reducible refine Zr (N := 2) rfl ?_); refine Zu ?hg (N := 2) ?hd (cs := #[.int .i64 a0_0, .slice A0_1 l0_1.length c0_1]) (t := 24) ?hr ?_; (case hd => rfl); (case hg => rfl); (case hr => first | (go_simp; done) | (go_simp; rfl)); intro gb442 hg w48 hbox hb; have n0_ := Aside0.mk (Zf hb_ hb); have n1_ := Aside0.mk (hbox); have n2_ := Aside0.mk ((hz_ hg : w.heap.size ≤ gb442)); have n3_ := Aside0.mk ((hz_ hg : w.heap.size ≤ gb442)); clear HB; have HB := n0_; have BK442 := n1_; have GW442 := n2_; have GE442 := n3_; clear n0_ n1_ n2_ n3_; clear hb hbox hg; have hcz49_0 : w48.cell? ⟨gb442, 0, none⟩ = some (.int .i64 a0_0) := (Ze BK442.out 0).trans rfl; have hcz49_1 : w48.cell? ⟨gb442, 1, none⟩ = some (.slice A0_1 l0_1.length c0_1) := (Ze BK442.out 1).trans rfl; have hfz49_0 := Zd BK442.out 0; have hfz49_1 := Zd BK442.out 1) | ((with_reducible refine Zl (f := 13) rfl ?_); refine Zx (some 11) rfl rfl Try.func13 (by kernel_rfl) rfl #[.agg #[.int .i64 a0_0, .slice A0_1 l0_1.length c0_1], .int .i64 1048576] rfl ar_ ?_; (with_reducible refine (laws_szGraph.calls k a0_0 _ _ l0_1 1048576 t443 _ ?side1 ?side2 A3.out).mono ?_); (case side1 => exact cb_ HR0_1.out); (case side2 => exact HC0_1.out); rintro e w50 ⟨rfl, hb⟩; refine ⟨_, rfl, ?_⟩; have n0_ := Aside0.mk (Zj (g := gb442) (o := .cells #[.int .i64 a0_0, .slice A0_1 l0_1.length c0_1] 24 (0, 0)) (bk_ BK442.out) hb); have n1_ := Aside0.mk (Zf hb_ hb); clear BK442; clear HB; have BK442 := n0_; have HB := n1_; clear n0_ n1_; (try clear hb); (try clear hb2); (try clear hk); (try clear hi); have hcz51_0 : w50.cell? ⟨gb442, 0, none⟩ = some (.int .i64 a0_0) := (Ze BK442.out 0).trans rfl; have hcz51_1 : w50.cell? ⟨gb442, 1, none⟩ = some (.slice A0_1 l0_1.length c0_1) := (Ze BK442.out 1).trans rfl; have hfz51_0 := Zd BK442.out 0; have hfz51_1 := Zd BK442.out 1) | ((with_reducible refine Zl (f := 15) rfl ?_); refine Zx (some 15) rfl rfl Try.func15 (by kernel_rfl) rfl #[.agg #[.int .i64 a0_0, .slice A0_1 l0_1.length c0_1]] rfl ar_ ?_; (with_reducible refine (laws_toGraph.calls k a0_0 _ _ l0_1 t444 t445 _ ?side1 ?side2 A8.out).mono ?_); (case side1 => exact cb_ HR0_1.out); (case side2 => exact HC0_1.out); rintro e w52 ⟨v446, rfl, ho0, hb⟩; refine ⟨_, rfl, ?_⟩; have n0_ := Aside0.mk (Kd.S_lower ho0 (Zi hb_)); have n1_ := Aside0.mk (Zj (g := gb442) (o := .cells #[.int .i64 a0_0, .slice A0_1 l0_1.length c0_1] 24 (0, 0)) (bk_ BK442.out) hb); have n2_ := Aside0.mk (Zf hb_ hb); clear BK442; clear HB; have HO447 := n0_; have BK442 := n1_; have HB := n2_; clear n0_ n1_ n2_; (try clear hb); (try clear hb2); (try clear hk); (try clear hi); (try clear ho0); obtain ⟨Ao53, co53, eo53⟩ := Kd.S_slice HO447.out; subst eo53) | ((with_reducible refine Zl (f := 14) rfl ?_); refine Zx (some 17) rfl rfl Try.func14 (by kernel_rfl) rfl #[.agg #[.int .i64 t444, .slice Ao53 t445.length co53], .int .i64 a1] rfl ar_ ?_; (with_reducible refine (spec_IsCertain.calls k t444 _ _ t445 a1 t448 _ ?side1 ?side2 A9.out).mono ?_); (case side1 => repeat (first | exact (Kd.S_reads' HO447.out).2.2 | (with_reducible refine Zv ?_ _) | (with_reducible refine Zt ?_ _) | (with_reducible refine Zy ?_))); (case side2 => exact (Kd.S_reads' HO447.out).2.1); rintro e w54 ⟨rfl, hb⟩; refine ⟨_, rfl, ?_⟩; have n0_ := Aside0.mk (Kd.S_below (rS_ HO447.out) hb); have n1_ := Aside0.mk (Zj (g := gb442) (o := .cells #[.int .i64 a0_0, .slice A0_1 l0_1.length c0_1] 24 (0, 0)) (bk_ BK442.out) hb); have n2_ := Aside0.mk (Zf hb_ hb); clear HO447; clear BK442; clear HB; have HO447 := n0_; have BK442 := n1_; have HB := n2_; clear n0_ n1_ n2_; (try clear hb); (try clear hb2); (try clear hk); (try clear hi); have hcz55_0 : w54.cell? ⟨gb442, 0, none⟩ = some (.int .i64 a0_0) := (Ze BK442.out 0).trans rfl; have hcz55_1 : w54.cell? ⟨gb442, 1, none⟩ = some (.slice A0_1 l0_1.length c0_1) := (Ze BK442.out 1).trans rfl; have hfz55_0 := Zd BK442.out 0; have hfz55_1 := Zd BK442.out 1) | ((with_reducible refine Zl (f := 15) rfl ?_); refine Zx (some 19) rfl rfl Try.func15 (by kernel_rfl) rfl #[.agg #[.int .i64 a0_0, .slice A0_1 l0_1.length c0_1]] rfl ar_ ?_; (with_reducible refine (laws_toGraph.calls k a0_0 _ _ l0_1 t449 t450 _ ?side1 ?side2 A10.out).mono ?_); (case side1 => exact cb_ HR0_1.out); (case side2 => exact HC0_1.out); rintro e w56 ⟨v451, rfl, ho0, hb⟩; refine ⟨_, rfl, ?_⟩; have n0_ := Aside0.mk (Kd.S_elder' (rS_ HO447.out) (Kd.S_base ho0) hb); have n1_ := Aside0.mk (Kd.S_lower (Kd.S_new' ho0 (Kd.S_lt (rS_ HO447.out))) (Zi hb_)); have n2_ := Aside0.mk (Zj (g := gb442) (o := .cells #[.int .i64 a0_0, .slice A0_1 l0_1.length c0_1] 24 (0, 0)) (bk_ BK442.out) hb); have n3_ := Aside0.mk (Zf hb_ hb); clear HO447; clear BK442; clear HB; have HO447 := n0_; have HO452 := n1_; have BK442 := n2_; have HB := n3_; clear n0_ n1_ n2_ n3_; (try clear hb); (try clear hb2); (try clear hk); (try clear hi); (try clear ho0)) | ((with_reducible refine Zr (N := 7) rfl ?_); refine Zu ?hg (N := 7) ?hd (cs := #[.int .i64 0, .slice none 0 0]) (t := 27) ?hr ?_; (case hd => rfl); (case hg => rfl); (case hr => first | (go_simp; done) | (go_simp; rfl)); intro gb453 hg w57 hbox hb; have n0_ := Aside0.mk (Kd.S_below (rS_ HO447.out) hb); have n1_ := Aside0.mk (Kd.S_below (rS_ HO452.out) hb); have n2_ := Aside0.mk (Zj (g := gb442) (o := .cells #[.int .i64 a0_0, .slice A0_1 l0_1.length c0_1] 24 (0, 0)) (bk_ BK442.out) hb); have n3_ := Aside0.mk (Zf hb_ hb); have n4_ := Aside0.mk (hbox); have n5_ := Aside0.mk ((hz_ hg : w.heap.size ≤ gb453)); have n6_ := Aside0.mk ((hz_ hg : w.heap.size ≤ gb453)); have n7_ := Aside0.mk ((by rw [hg]; exact Nat.ne_of_lt (blk_lt (g := gb442) (o := .cells #[.int .i64 a0_0, .slice A0_1 l0_1.length c0_1] 24 (0, 0)) (bk_ BK442.out)) : gb442 ≠ gb453)); have n8_ := Aside0.mk ((by rw [hg]; exact Nat.ne_of_gt (blk_lt (g := gb442) (o := .cells #[.int .i64 a0_0, .slice A0_1 l0_1.length c0_1] 24 (0, 0)) (bk_ BK442.out)) : gb453 ≠ gb442)); clear HO447; clear HO452; clear BK442; clear HB; have HO447 := n0_; have HO452 := n1_; have BK442 := n2_; have HB := n3_; have BK453 := n4_; have GW453 := n5_; have GE453 := n6_; have NB442_453 := n7_; have NB453_442 := n8_; clear n0_ n1_ n2_ n3_ n4_ n5_ n6_ n7_ n8_; clear hb hbox hg; have hnb58 := NB453_442.out; have hnc58 := NB442_453.out; have hcz59_0 : w57.cell? ⟨gb453, 0, none⟩ = some (.int .i64 0) := (Ze BK453.out 0).trans rfl; have hcz59_1 : w57.cell? ⟨gb453, 1, none⟩ = some (.slice none 0 0) := (Ze BK453.out 1).trans rfl; have hfz59_0 := Zd BK453.out 0; have hfz59_1 := Zd BK453.out 1; obtain ⟨Ao60, co60, eo60⟩ := Kd.S_slice HO452.out; subst eo60) | ((with_reducible refine Zl (f := 16) rfl ?_); refine Zx (some 22) rfl rfl Try.func16 (by kernel_rfl) rfl #[.agg #[.int .i64 t449, .slice Ao60 t450.length co60], .int .i64 a1] rfl ar_ ?_; (with_reducible refine (impl_IsCertain.calls k t449 _ _ t450 a1 t454 _ ?side1 ?side2 A11.out).mono ?_); (case side1 => refine (Kd.S_reads' (e := 38) (base := w.heap.size) (ok := fun k_ => (True ∧ some k_ ≠ (.slice Ao53 t445.length co53 : Value).ownBlock)) (n := t450.length) (c := co60) ?_).2.2; exact (by (with_reducible repeat (first | apply Kd.S_alloc | apply Kd.S_drewN | apply Kd.S_drew)); exact (Kd.S_mono (Kd.S_far (p := ⟨gb453, 1, none⟩) (Kd.S_far (p := ⟨gb453, 0, none⟩) (Kd.S_types HO452.out BK453.out (by decide)) (fun _ hk => hk.2) (.int .i64 t449)) (fun _ hk => hk.2) (.slice Ao60 t450.length co60)) (fun _ h_ => h_.1)))); (case side2 => exact (Kd.S_reads' HO452.out).2.1); rintro e w61 ⟨rfl, hb⟩; refine ⟨_, rfl, ?_⟩; have n0_ := Aside0.mk (Kd.S_below (by (with_reducible repeat (first | apply Kd.S_alloc | apply Kd.S_drewN | apply Kd.S_drew)); exact (Kd.S_mono (Kd.S_far (p := ⟨gb453, 1, none⟩) (Kd.S_far (p := ⟨gb453, 0, none⟩) (Kd.S_types HO447.out BK453.out (by decide)) (fun _ hk => hk.2) (.int .i64 t449)) (fun _ hk => hk.2) (.slice Ao60 t450.length co60)) (fun _ h_ => h_.1))) hb); have n1_ := Aside0.mk (Kd.S_below (by (with_reducible repeat (first | apply Kd.S_alloc | apply Kd.S_drewN | apply Kd.S_drew)); exact (Kd.S_mono (Kd.S_far (p := ⟨gb453, 1, none⟩) (Kd.S_far (p := ⟨gb453, 0, none⟩) (Kd.S_types HO452.out BK453.out (by decide)) (fun _ hk => hk.2) (.int .i64 t449)) (fun _ hk => hk.2) (.slice Ao60 t450.length co60)) (fun _ h_ => h_.1))) hb); have n2_ := Aside0.mk (Zj (g := gb442) (o := .cells #[.int .i64 a0_0, .slice A0_1 l0_1.length c0_1] 24 (0, 0)) (by (with_reducible repeat (first | refine blk_drewN ?_ _ | refine blk_drew ?_ | refine blk_alloc ?_ _)); refine blk_far ?_ NB442_453.out _; (with_reducible repeat (first | refine blk_drewN ?_ _ | refine blk_drew ?_ | refine blk_alloc ?_ _)); refine blk_far ?_ NB442_453.out _; (with_reducible repeat (first | refine blk_drewN ?_ _ | refine blk_drew ?_ | refine blk_alloc ?_ _)); exact BK442.out) hb); have n3_ := Aside0.mk (Zj (g := gb453) (o := .cells #[.int .i64 t449, .slice Ao60 t450.length co60] 27 (0, 0)) (by (with_reducible repeat (first | refine blk_drewN ?_ _ | refine blk_drew ?_ | refine blk_alloc ?_ _)); refine blk_put (cs := #[.int .i64 t449, .slice none 0 0]) ?_ 1 _ rfl; (with_reducible repeat (first | refine blk_drewN ?_ _ | refine blk_drew ?_ | refine blk_alloc ?_ _)); refine blk_put (cs := #[.int .i64 0, .slice none 0 0]) ?_ 0 _ rfl; (with_reducible repeat (first | refine blk_drewN ?_ _ | refine blk_drew ?_ | refine blk_alloc ?_ _)); exact BK453.out) hb); have n4_ := Aside0.mk (Zf hb_ hb); clear HO447; clear HO452; clear BK442; clear BK453; clear HB; have HO447 := n0_; have HO452 := n1_; have BK442 := n2_; have BK453 := n3_; have HB := n4_; clear n0_ n1_ n2_ n3_ n4_; (try clear hb); (try clear hb2); (try clear hk); (try clear hi)))
    have n0_ := Aside0.mk (Kd.S_drew HO447.out)
    have n1_ := Aside0.mk (Kd.S_drew HO452.out)
    have n2_ := Aside0.mk (blk_drew BK442.out)
    have n3_ := Aside0.mk (blk_drew BK453.out)
    have n4_ := Aside0.mk (below_drew1 HB.out)
    clear HO447
    clear HO452
    clear BK442
    clear BK453
    clear HB
    have HO447 := n0_
    have HO452 := n1_
    have BK442 := n2_
    have BK453 := n3_
    have HB := n4_
    clear n0_ n1_ n2_ n3_ n4_
    refine start_ (n := 5) (S := fun w' => w'.cell? ⟨gb453, 0, none⟩ = some (.int .i64 t449) ∧ w'.cell? ⟨gb453, 1, none⟩ = some (.slice Ao60 t450.length co60) ∧ w'.cell? ⟨gb442, 0, none⟩ = some (.int .i64 a0_0) ∧ w'.cell? ⟨gb442, 1, none⟩ = some (.slice A0_1 l0_1.length c0_1)) (ds := []) #[O,O,O,O,O] (by kernel_rfl) rfl rfl ⟨(Ze BK453.out 0).trans rfl, (Ze BK453.out 1).trans rfl, (Ze BK442.out 0).trans rfl, (Ze BK442.out 1).trans rfl⟩ (fun hHeld => ?_)
    generalize w61.drew = w62 at HO447 HO452 BK442 BK453 HB hHeld ⊢
    refine take_ (i := 0) (N := some 26) (v := ?_) (a' := ?_) #[Y,O,O,O,O] rfl rfl (by kernel_rfl) (fun _ _ _ h => h) (Or.inl ⟨by rfl, ?_⟩) hHeld ?_ ?_
    rotate_left
    ·rintro w' ⟨s0, s1, s2, s3⟩
     go_simp
     with_reducible rfl
    rotate_left
    ·simp only [Act.put, Za, Zb, Zc, Zk, Zm]
     rfl
    refine take_ (i := 1) (N := some 27) (v := ?_) (a' := ?_) #[Y,Y,O,O,O] rfl rfl (by kernel_rfl) (fun _ _ _ h => h) (Or.inl ⟨by rfl, ?_⟩) hHeld ?_ ?_
    rotate_left
    ·rintro w' ⟨s0, s1, s2, s3⟩
     go_simp
     with_reducible rfl
    rotate_left
    ·simp only [Act.put, Za, Zb, Zc, Zk, Zm]
     rfl
    refine one_ (i := 2) (N := some 28) #[Y,Y,Y,O,O] rfl rfl (by kernel_rfl) (by decide) (fun K hK => ?_)
    refine goes_ Try.func15 (by kernel_rfl) rfl #[.agg #[.int .i64 a0_0, .slice A0_1 l0_1.length c0_1]] (by rfl) rfl rfl ar_ ?_
    with_reducible refine (laws_toGraph.calls k a0_0 _ _ l0_1 t455 t456 _ ?side1 ?side2 A27.out).mono ?_
    (case side1 => exact cb_ HR0_1.out)
    (case side2 => exact HC0_1.out)
    rintro e w63 ⟨v457, rfl, ho0, hb⟩
    refine ⟨_, rfl, ?_⟩
    have n0_ := Aside0.mk (Kd.S_elder' (rS_ HO447.out) (Kd.S_base ho0) hb)
    have n1_ := Aside0.mk (Kd.S_elder' (rS_ HO452.out) (Kd.S_base ho0) hb)
    have n2_ := Aside0.mk (Kd.S_lower (Kd.S_new' (Kd.S_new' ho0 (Kd.S_lt (rS_ HO447.out))) (Kd.S_lt (rS_ HO452.out))) (Zi hb_))
    have n3_ := Aside0.mk (Zj (g := gb442) (o := .cells #[.int .i64 a0_0, .slice A0_1 l0_1.length c0_1] 24 (0, 0)) (bk_ BK442.out) hb)
    have n4_ := Aside0.mk (Zj (g := gb453) (o := .cells #[.int .i64 t449, .slice Ao60 t450.length co60] 27 (0, 0)) (bk_ BK453.out) hb)
    have n5_ := Aside0.mk (Zf hb_ hb)
    clear HO447
    clear HO452
    clear BK442
    clear BK453
    clear HB
    have HO447 := n0_
    have HO452 := n1_
    have HO458 := n2_
    have BK442 := n3_
    have BK453 := n4_
    have HB := n5_
    clear n0_ n1_ n2_ n3_ n4_ n5_
    (try clear hb)
    (try clear hb2)
    (try clear hk)
    (try clear hi)
    (try clear ho0)
    obtain ⟨Ao64, co64, eo64⟩ := Kd.S_slice HO458.out
    (first | subst eo64 | (injection eo64 with f1_ f2_ f3_; have f4_ := f1_.symm; have f5_ := f3_.symm; clear f1_ f2_ f3_; subst f4_; subst f5_))
    refine hK.out _ _ ⟨(Ze BK453.out 0).trans rfl, (Ze BK453.out 1).trans rfl, (Ze BK442.out 0).trans rfl, (Ze BK442.out 1).trans rfl⟩ (fun hHeld => ?_)
    clear hK K
    refine norm_ (a' := ?_) ?_ ?_
    rotate_left
    ·show Act.put _ (some 28) _ = _
     simp only [Act.put, Za, Zb, Zc, Zk, Zm]
     rfl
    refine one_ (i := 3) (N := some 29) #[Y,Y,Y,Y,O] rfl rfl (by kernel_rfl) (by decide) (fun K hK => ?_)
    refine goes_ Try.func17 (by kernel_rfl) rfl #[.agg #[.int .i64 t449, .slice Ao60 t450.length co60], .agg #[.int .i64 t455, .slice Ao64 t456.length co64]] (by rfl) rfl rfl ar_ ?_
    with_reducible refine (laws_eqGraph.calls k t449 _ _ t450 t455 _ _ t456 false _ ?side1 ?side2 ?side3 ?side4 A28.out).mono ?_
    (case side1 => repeat (first | exact (Kd.S_reads' HO452.out).2.2 | (with_reducible refine Zv ?_ _) | (with_reducible refine Zt ?_ _) | (with_reducible refine Zy ?_)))
    (case side2 => exact (Kd.S_reads' HO452.out).2.1)
    (case side3 => repeat (first | exact (Kd.S_reads' HO458.out).2.2 | (with_reducible refine Zv ?_ _) | (with_reducible refine Zt ?_ _) | (with_reducible refine Zy ?_)))
    (case side4 => exact (Kd.S_reads' HO458.out).2.1)
    rintro e w65 ⟨rfl, hb⟩
    refine ⟨_, rfl, ?_⟩
    have n0_ := Aside0.mk (Kd.S_below (rS_ HO447.out) hb)
    have n1_ := Aside0.mk (Kd.S_below (rS_ HO452.out) hb)
    have n2_ := Aside0.mk (Kd.S_below (rS_ HO458.out) hb)
    have n3_ := Aside0.mk (Zj (g := gb442) (o := .cells #[.int .i64 a0_0, .slice A0_1 l0_1.length c0_1] 24 (0, 0)) (bk_ BK442.out) hb)
    have n4_ := Aside0.mk (Zj (g := gb453) (o := .cells #[.int .i64 t449, .slice Ao60 t450.length co60] 27 (0, 0)) (bk_ BK453.out) hb)
    have n5_ := Aside0.mk (Zf hb_ hb)
    clear HO447
    clear HO452
    clear HO458
    clear BK442
    clear BK453
    clear HB
    have HO447 := n0_
    have HO452 := n1_
    have HO458 := n2_
    have BK442 := n3_
    have BK453 := n4_
    have HB := n5_
    clear n0_ n1_ n2_ n3_ n4_ n5_
    (try clear hb)
    (try clear hb2)
    (try clear hk)
    (try clear hi)
    refine hK.out _ _ ⟨(Ze BK453.out 0).trans rfl, (Ze BK453.out 1).trans rfl, (Ze BK442.out 0).trans rfl, (Ze BK442.out 1).trans rfl⟩ (fun hHeld => ?_)
    clear hK K
    refine norm_ (a' := ?_) ?_ ?_
    rotate_left
    ·show Act.put _ (some 29) _ = _
     simp only [Act.put, Za, Zb, Zc, Zk, Zm]
     rfl
    refine Zq (i := 4) (N := some 30) (v := ?_) (a' := ?_) #[Y,Y,Y,Y,Y] rfl rfl (by kernel_rfl) (fun _ _ _ h => h) (Or.inl ⟨by rfl, ?_⟩) ?_ ?_
    rotate_left
    ·intro w'
     go_simp
     with_reducible rfl
    rotate_left
    ·simp only [Act.put, Za, Zb, Zc, Zk, Zm]
     rfl
    refine done_ (by kernel_rfl) ?_
    try go_wp2
    all_goals go_ret
    all_goals exact ⟨er_, hb_⟩

end Go.Proofs.Ytkmhkkhlbnhaaaa.PFnExactIsCertain
