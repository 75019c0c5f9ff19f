-- Written by a program of this session (hooks of mine on the print): Lean checks it.
import Derived.Test.YtkmhkkhlbnhaaaaPFnExactPreferredx0
import Derived.Test.YtkmhkkhlbnhaaaaPFnExactPreferredx9
import Derived.Test.YtkmhkkhlbnhaaaaPFnExactPreferredx11
namespace Go.Proofs.Ytkmhkkhlbnhaaaa.PFnExactPreferred
open Go.RowKit Go.Proofs.YtkmhkkhlbnhaaaaW.PrintWords Go.Proofs.YtkmhkkhlbnhaaaaW.PrintLast Go.Proofs.YtkmhkkhlbnhaaaaW.PrintMore
attribute [local go_sem] max2_int min2_int max_two min_two max_three min_three max_four min_four   -- for this text's walks alone
set_option linter.unusedVariables false
set_option linter.unusedSimpArgs false

/-! ### impl_isWithin: function 56 -/
def impl_isWithin.l0 : Nat → List Int → List Int → Int → Int → Option (Bool)
 | 0, _, _, _, _ => none
 | k + 1, x1, x7, x8, x9 => if x9 < x8 then (if 0 ≤ x9 then (if x9 < (x7.length : Int) then ((slices_Contains_int_int.f k x1 (rd x7 x9)).bind fun t412 => (if t412 = true then (impl_isWithin.l0 k x1 x7 x8 (wrap64 (x9 + 1))) else (some false))) else (none)) else (none)) else (some true)
def impl_isWithin.f (k : Nat) (l0 : List Int) (l1 : List Int) : Option (Bool) := impl_isWithin.l0 k l1 l0 (l0.length : Int) 0
theorem impl_isWithin.mono_l : ∀ k, (∀ y0 y1 y2 y3, LeO (impl_isWithin.l0 k y0 y1 y2 y3) (impl_isWithin.l0 (k + 1) y0 y1 y2 y3))
 | 0 => fun _ _ _ _ r h => by simp [impl_isWithin.l0] at h
 | k + 1 => by
  have ih0 := impl_isWithin.mono_l k
  ·intro y0 y1 y2 y3
   unfold impl_isWithin.l0
   repeat' first
   | (with_reducible exact ih0 _ _ _ _)
   | (with_reducible exact slices_Contains_int_int.mono _ _ _)
   | (with_reducible exact Zv _)
   | (with_reducible exact Zh _)
   | (with_reducible refine Zn ?_ ?_)
   | (with_reducible refine Zi ?_ (fun _ => ?_))
   | exact ih0 _ _ _ _
   | exact slices_Contains_int_int.mono _ _ _
   | exact Zh _
   | refine Zn ?_ ?_
   | refine Zi ?_ (fun _ => ?_)
theorem impl_isWithin.mono : ∀ a0 a1 k, LeO (impl_isWithin.f k a0 a1) (impl_isWithin.f (k + 1) a0 a1) := by
 intro a0 a1 k
 have ih0 := impl_isWithin.mono_l k
 unfold impl_isWithin.f
 repeat' first
   | (with_reducible exact ih0 _ _ _ _)
   | (with_reducible exact slices_Contains_int_int.mono _ _ _)
   | (with_reducible exact Zv _)
   | (with_reducible exact Zh _)
   | (with_reducible refine Zn ?_ ?_)
   | (with_reducible refine Zi ?_ (fun _ => ?_))
   | exact ih0 _ _ _ _
   | exact slices_Contains_int_int.mono _ _ _
   | exact Zh _
   | refine Zn ?_ ?_
   | refine Zi ?_ (fun _ => ?_)
set_option maxHeartbeats 8000000 in
set_option maxRecDepth 100000 in
theorem impl_isWithin.calls (k : Nat) (A0 : Option Addr) (c0 : Nat) (l0 : List Int) (A1 : Option Addr) (c1 : Nat) (l1 : List Int) (r : Bool) (w : World) (hr0 : Kd.C (Kd.int .i64) w A0 l0.length l0) (hc0 : l0.length ≤ c0) (hr1 : Kd.C (Kd.int .i64) w A1 l1.length l1) (hc1 : l1.length ≤ c1) (h : impl_isWithin.f k l0 l1 = some r) :
  Calls Try.prog 56 #[.slice A0 l0.length c0, .slice A1 l1.length c1] w fun e w' => e = .returned (.bool r) ∧ Drawn0 w w' := by
 have HR0 := Aside0.mk hr0
 have HC0 := Aside0.mk hc0
 clear hr0 hc0
 have HR1 := Aside0.mk hr1
 have HC1 := Aside0.mk hc1
 clear hr1 hc1
 have H : (impl_isWithin.l0 k l1 l0 (l0.length : Int) 0) = some r := h
 clear h
 have H' := Aside0.mk H
 clear H
 go_enter Try.func56, Try.ntmps56
 go_wp2
 go_loopg [9] k (fun kq v9 w' => ∃ (x9_1 : Int), v9 = .int .i64 x9_1 ∧ Aside0 (impl_isWithin.l0 kq l1 l0 (l0.length : Int) x9_1 = some r) ∧ Aside0 (kq ≤ k) ∧ Drawn0 w w')
 case atStart => exact ⟨(0), sm_, H', ⟨Nat.le_refl _⟩, dr_⟩
 case round =>
  clear H'
  try clear c1
  try clear p2
  obtain ⟨x9_1, rfl, HA, HK1, ⟨m1, rfl⟩⟩ := hrel
  cases gk with
  | zero => exact absurd HA.out (by simp [impl_isWithin.l0])
  | succ k1 =>
   have H := HA.out
   clear HA
   simp only [impl_isWithin.l0] at H
   by_cases c3 : x9_1 < (l0.length : Int)
   ·rw [if_pos c3] at H
    have c3b0 : decide (x9_1 < (l0.length : Int)) = true := decide_eq_true c3
    clear c3
    by_cases c4 : 0 ≤ x9_1
    ·rw [if_pos c4] at H
     have c4b0 : decide (0 ≤ x9_1) = true := decide_eq_true c4
     clear c4
     by_cases c5 : x9_1 < (l0.length : Int)
     ·rw [if_pos c5] at H
      have c5b0 : decide (x9_1 < (l0.length : Int)) = true := decide_eq_true c5
      clear c5
      replace H := Option.bind_eq_some_iff.mp H
      obtain ⟨t412, A60, H⟩ := H
      replace H : (if t412 = true then (impl_isWithin.l0 k1 l1 l0 (l0.length : Int) (wrap64 (x9_1 + 1))) else (some false)) = some r := H
      have A6 := Aside0.mk A60
      clear A60
      by_cases c7 : t412 = true
      ·subst c7
       have H1 : (impl_isWithin.l0 k1 l1 l0 (l0.length : Int) (wrap64 (x9_1 + 1))) = some r := by rw [if_pos rfl] at H; exact H
       clear H
       have H := H1
       clear H1
       have H' := Aside0.mk H
       clear H
       have p411 : 0 ≤ (x9_1 : Int) := of_decide_eq_true as_
       have q411 : x9_1 < (l0.length : Int) := of_decide_eq_true as_
       obtain ⟨ad411, e411, hx411_0⟩ := Zo HR0.out x9_1 p411 q411
       cases e411
       replace p411 := eq_true p411
       replace q411 := eq_true q411
       go_wp2_with (first | ((with_reducible refine Zg (f := 49) rfl ?_); refine Zw (some 15) rfl rfl Try.func49 (by kernel_rfl) rfl #[.slice A1 l1.length c1, .int .i64 (rd l0 x9_1)] rfl ar_ ?_; (with_reducible refine (slices_Contains_int_int.calls k1 _ _ l1 (rd l0 x9_1) true _ ?side1 ?side2 A6.out).mono ?_); (case side1 => repeat (first | exact HR1.out | (with_reducible refine Zs ?_ _) | (with_reducible refine Zr ?_ _) | (with_reducible refine Zt ?_))); (case side2 => exact HC1.out); rintro e w' ⟨rfl, ⟨nd, rfl⟩⟩; refine ⟨_, rfl, ?_⟩))
       go_roundg k1
       case measure => have := HK1.out; omega
       case rel => exact ⟨(wrap64 (x9_1 + 1)), sm_, H', ⟨by have := HK1.out; omega⟩, dr_⟩
      ·replace c7 := Bool.eq_false_iff.mpr c7
       subst c7
       have H1 : (some false) = some r := by rw [if_neg (show ¬ (false = true) by decide)] at H; exact H
       clear H
       have H := H1
       clear H1
       obtain rfl := Option.some.inj H
       have p411 : 0 ≤ (x9_1 : Int) := of_decide_eq_true as_
       have q411 : x9_1 < (l0.length : Int) := of_decide_eq_true as_
       obtain ⟨ad411, e411, hx411_0⟩ := Zo HR0.out x9_1 p411 q411
       cases e411
       replace p411 := eq_true p411
       replace q411 := eq_true q411
       go_wp2_with (first | ((with_reducible refine Zg (f := 49) rfl ?_); refine Zw (some 15) rfl rfl Try.func49 (by kernel_rfl) rfl #[.slice A1 l1.length c1, .int .i64 (rd l0 x9_1)] rfl ar_ ?_; (with_reducible refine (slices_Contains_int_int.calls k1 _ _ l1 (rd l0 x9_1) false _ ?side1 ?side2 A6.out).mono ?_); (case side1 => repeat (first | exact HR1.out | (with_reducible refine Zs ?_ _) | (with_reducible refine Zr ?_ _) | (with_reducible refine Zt ?_))); (case side2 => exact HC1.out); rintro e w' ⟨rfl, ⟨nd, rfl⟩⟩; refine ⟨_, rfl, ?_⟩))
       go_ret
       exact ⟨sm_, dr_⟩
     ·rw [if_neg c5] at H
      exact absurd H (by simp)
    ·rw [if_neg c4] at H
     exact absurd H (by simp)
   ·rw [if_neg c3] at H
    have c3b0 : decide (x9_1 < (l0.length : Int)) = false := decide_eq_false c3
    clear c3
    obtain rfl := Option.some.inj H
    go_wp2
    go_ret
    exact ⟨sm_, dr_⟩

/-! ### impl_Preferred: function 19 -/
/-- Whether some row is longer than the one in hand and holds all of it. -/
def prefAny.l0 : Nat → List (List Int) → List Int → Int → Option Int
  | 0, _, _, _ => none
  | k + 1, x0, x1, x8 => if x8 < (x0.length : Int) then (if 0 ≤ x8 then (if ((rd_L1 x0 x8).length : Int) > (x1.length : Int) then ((impl_isWithin.f k x1 (rd_L1 x0 x8)).bind fun t => (if t = true then (some x8) else (prefAny.l0 k x0 x1 (wrap64 (x8 + 1))))) else (prefAny.l0 k x0 x1 (wrap64 (x8 + 1)))) else (none)) else (some (-1))
theorem prefAny.mono_l : ∀ k, (∀ y0 y1 y2, LeO (prefAny.l0 k y0 y1 y2) (prefAny.l0 (k + 1) y0 y1 y2))
  | 0 => fun _ _ _ => by (unfold prefAny.l0; exact Zh _)
  | k + 1 => by
    have ih0 := prefAny.mono_l k
    · intro y0 y1 y2
      unfold prefAny.l0
      repeat' first
      | (with_reducible exact ih0 _ _ _)
      | (with_reducible exact impl_isWithin.mono _ _ _)
      | (with_reducible exact Zv _)
      | (with_reducible exact Zh _)
      | (with_reducible refine Zn ?_ ?_)
      | (with_reducible refine Zi ?_ (fun _ => ?_))
      | exact ih0 _ _ _
      | exact Zh _
      | refine Zn ?_ ?_
      | refine Zi ?_ (fun _ => ?_)
def impl_Preferred.l0 : Nat → List (List Int) → List (List Int) → Int → Option (List (List Int))
  | 0, _, _, _ => none
  | k + 1, x4, x3, x12 => if x12 < (x3.length : Int) then (if 0 ≤ x12 then ((prefAny.l0 k x3 (rd_L1 x3 x12) 0).bind fun t => (if 0 ≤ t then (impl_Preferred.l0 k x4 x3 (wrap64 (x12 + 1))) else (if x4.length < 5864062014805 then (impl_Preferred.l0 k (x4 ++ [rd_L1 x3 x12]) x3 (wrap64 (x12 + 1))) else (none)))) else (none)) else (some x4)
def impl_Preferred.f (k : Nat) (a0_0 : Int) (l0_1 : List (List Int)) : Option (List (List Int)) := (impl_AllComplete.f k a0_0 l0_1).bind fun t => impl_Preferred.l0 k ([] : List (List Int)) t 0
theorem impl_Preferred.mono_l : ∀ k, (∀ y0 y1 y2, LeO (impl_Preferred.l0 k y0 y1 y2) (impl_Preferred.l0 (k + 1) y0 y1 y2))
  | 0 => fun _ _ _ => by (unfold impl_Preferred.l0; exact Zh _)
  | k + 1 => by
    have ih0 := impl_Preferred.mono_l k
    · intro y0 y1 y2
      unfold impl_Preferred.l0
      repeat' first
      | (with_reducible exact ih0 _ _ _)
      | (with_reducible exact prefAny.mono_l _ _ _ _)
      | (with_reducible exact Zv _)
      | (with_reducible exact Zh _)
      | (with_reducible refine Zn ?_ ?_)
      | (with_reducible refine Zi ?_ (fun _ => ?_))
      | exact ih0 _ _ _
      | exact Zh _
      | refine Zn ?_ ?_
      | refine Zi ?_ (fun _ => ?_)
theorem impl_Preferred.mono : ∀ a0 a1 k, LeO (impl_Preferred.f k a0 a1) (impl_Preferred.f (k + 1) a0 a1) := by
  intro a0 a1 k
  unfold impl_Preferred.f
  exact Zi (impl_AllComplete.mono _ _ _) (fun _ => impl_Preferred.mono_l _ _ _ _)
set_option maxHeartbeats 8000000 in
set_option maxRecDepth 100000 in
/-- The function value at a row that is longer than the boxed one. -/
theorem prefAny.long (k : Nat) (A0 : Option Addr) (c0 : Nat) (l0 : List Int) (A1 : Option Addr) (c1 : Nat) (l1 : List Int) (B : Nat) (r : Bool) (w : World) (hr0 : Kd.C (Kd.int .i64) w A0 l0.length l0) (hc0 : l0.length ≤ c0) (hr1 : Kd.C (Kd.int .i64) w A1 l1.length l1) (hc1 : l1.length ≤ c1) (hcell : w.cell? ⟨B, 0, none⟩ = some (.slice A1 l1.length c1)) (hgt : (l0.length : Int) > (l1.length : Int)) (h : impl_isWithin.f k l1 l0 = some r) :
    Calls Try.prog 55 #[.slice A0 l0.length c0, .pointer (some ⟨B, 0, none⟩)] w fun e w' => e = .returned (.bool r) ∧ Drawn0 w w' := by
  have hcon := fun W (h1 : Kd.C (Kd.int .i64) W A1 l1.length l1) (h0 : Kd.C (Kd.int .i64) W A0 l0.length l0) => impl_isWithin.calls k A1 c1 l1 A0 c0 l0 r W h1 hc1 h0 hc0 h
  have hgtn : l1.length < l0.length := by omega
  have hgtb := decide_eq_true hgt
  have hgtb2 := decide_eq_true hgtn
  have hgt2 := eq_true hgt
  replace hgtn := eq_true hgtn
  clear hgt
  go_enter Try.func55, Try.ntmps55
  go_wp2_with (go_at_call 56; refine (hcon _ (by first | exact hr1 | exact Zt hr1 | exact Zr hr1 _) (by first | exact hr0 | exact Zt hr0 | exact Zr hr0 _)).mono ?_; rintro e w' ⟨rfl, ⟨nd, rfl⟩⟩)
  go_ret
  exact ⟨rfl, dr_⟩
set_option maxHeartbeats 8000000 in
set_option maxRecDepth 100000 in
theorem prefAny.short (A0 : Option Addr) (c0 : Nat) (l0 : List Int) (A1 : Option Addr) (c1 : Nat) (l1 : List Int) (B : Nat) (w : World) (hcell : w.cell? ⟨B, 0, none⟩ = some (.slice A1 l1.length c1)) (hgt : ¬ (l0.length : Int) > (l1.length : Int)) :
    Calls Try.prog 55 #[.slice A0 l0.length c0, .pointer (some ⟨B, 0, none⟩)] w fun e w' => e = .returned (.bool false) ∧ Drawn0 w w' := by
  have hgtn : ¬ l1.length < l0.length := by omega
  have hgtb := decide_eq_false hgt
  have hgtb2 := decide_eq_false hgtn
  have hgt2 := eq_false hgt
  replace hgtn := eq_false hgtn
  clear hgt
  go_enter Try.func55, Try.ntmps55
  go_wp2
  go_ret
  exact ⟨rfl, dr_⟩
set_option maxHeartbeats 8000000 in
set_option maxRecDepth 100000 in
theorem prefAny.finds (k : Nat) (A0 : Option Addr) (c0 : Nat) (l0 : List (List Int)) (A1 : Option Addr) (c1 : Nat) (l1 : List Int) (B : Nat) (r : Int) (w : World) (hr0 : Kd.C (Kd.slice 3 (Kd.int .i64)) w A0 l0.length l0) (hc0 : l0.length ≤ c0) (hr1 : Kd.C (Kd.int .i64) w A1 l1.length l1) (hc1 : l1.length ≤ c1) (hB : B < w.heap.size) (hcell : w.cell? ⟨B, 0, none⟩ = some (.slice A1 l1.length c1)) (h : prefAny.l0 k l0 l1 0 = some r) :
    Calls Try.prog 82 #[.slice A0 l0.length c0, .func (.func 55) #[] #[.pointer (some ⟨B, 0, none⟩)]] w fun e w' => e = .returned (.int .i64 r) ∧ Drawn0 w w' := by
  have eg : ∀ args w, (callFunc 55 args).run Try.prog w = .ok (.enter 55 args) w := enters_of Try.func55 (by kernel_rfl) rfl
  have H' := Aside0.mk h
  have HR0 := Aside0.mk hr0
  have HR1 := Aside0.mk hr1
  have HCELL := Aside0.mk hcell
  have HBB := Aside0.mk hB
  clear h hr0 hr1 hcell hB
  go_enter Try.func82, Try.ntmps82
  go_wp2
  go_loopg [5, 8] k (fun kq _ v8 w' => ∃ (x8_1 : Int), v8 = .int .i64 x8_1 ∧ Aside0 (prefAny.l0 kq l0 l1 x8_1 = some r) ∧ Aside0 (kq ≤ k) ∧ Drawn0 w w')
  case atStart => exact ⟨0, rfl, H', ⟨Nat.le_refl _⟩, dr_⟩
  case round =>
    clear H'
    obtain ⟨x8_1, rfl, HA, HK1, ⟨m1, rfl⟩⟩ := hrel
    cases gk with
    | zero => exact absurd HA.out (by simp [prefAny.l0])
    | succ k1 =>
      have H := HA.out
      clear HA
      simp only [prefAny.l0] at H
      by_cases c3 : x8_1 < (l0.length : Int)
      · rw [if_pos c3] at H
        have c3b0 : decide (x8_1 < (l0.length : Int)) = true := decide_eq_true c3
        by_cases c4 : 0 ≤ x8_1
        · rw [if_pos c4] at H
          have c4b0 : decide (0 ≤ x8_1) = true := decide_eq_true c4
          have p101 : 0 ≤ (x8_1 : Int) := c4
          have q101 : x8_1 < (l0.length : Int) := c3
          clear c3 c4
          obtain ⟨ad101, A101_0, c101_0, e101, hx101_0, hl101_0, hi101_0⟩ := at_L1 HR0.out x8_1 p101 q101
          cases e101
          obtain ⟨t102, hcall, H⟩ : ∃ t102 : Bool, (Calls Try.prog 55 (#[.slice A101_0 (rd_L1 l0 x8_1).length c101_0] ++ #[.pointer (some ⟨B, 0, none⟩)]) (w.drewN m1) fun e w' => e = .returned (.bool t102) ∧ Drawn0 (w.drewN m1) w') ∧ (if t102 = true then (some x8_1) else (prefAny.l0 k1 l0 l1 (wrap64 (x8_1 + 1)))) = some r := by
            have hce := (((pw_below_drewN (Below.refl w.heap.size w) m1).cell (p := ⟨B, 0, none⟩) HBB.out).trans HCELL.out)
            by_cases c5 : ((rd_L1 l0 x8_1).length : Int) > (l1.length : Int)
            · rw [if_pos c5] at H
              obtain ⟨t, hw, H⟩ := Option.bind_eq_some_iff.mp H
              exact ⟨t, prefAny.long k1 A101_0 c101_0 (rd_L1 l0 x8_1) A1 c1 l1 B t (w.drewN m1) (Zr hi101_0 _) hl101_0 (Zr HR1.out _) hc1 hce c5 hw, H⟩
            · rw [if_neg c5] at H
              exact ⟨false, prefAny.short A101_0 c101_0 (rd_L1 l0 x8_1) A1 c1 l1 B (w.drewN m1) hce c5, by rw [if_neg (by decide)]; exact H⟩
          clear hi101_0 hl101_0
          replace p101 := eq_true p101
          replace q101 := eq_true q101
          cases t102 with
          | true =>
            rw [if_pos rfl] at H
            obtain rfl := Option.some.inj H
            go_wp2_with (go_at_call 55; refine hcall.mono ?_; rintro e w' ⟨rfl, ⟨nd, rfl⟩⟩)
            go_ret
            exact ⟨rfl, dr_⟩
          | false =>
            rw [if_neg (by decide)] at H
            have H' := Aside0.mk H
            clear H
            go_wp2_with (go_at_call 55; refine hcall.mono ?_; rintro e w' ⟨rfl, ⟨nd, rfl⟩⟩)
            go_roundg k1
            case measure => have := HK1.out; omega
            case rel => exact ⟨(wrap64 (x8_1 + 1)), sm_, H', ⟨by have := HK1.out; omega⟩, dr_⟩
        · rw [if_neg c4] at H
          exact absurd H (by simp)
      · rw [if_neg c3] at H
        have c3b0 : decide (x8_1 < (l0.length : Int)) = false := decide_eq_false c3
        clear c3
        obtain rfl := Option.some.inj H
        go_wp2
        go_ret
        exact ⟨rfl, dr_⟩
set_option maxHeartbeats 8000000 in
set_option maxRecDepth 100000 in
theorem prefAny.calls (k : Nat) (A0 : Option Addr) (c0 : Nat) (l0 : List (List Int)) (A1 : Option Addr) (c1 : Nat) (l1 : List Int) (B : Nat) (r : Int) (w : World) (hr0 : Kd.C (Kd.slice 3 (Kd.int .i64)) w A0 l0.length l0) (hc0 : l0.length ≤ c0) (hr1 : Kd.C (Kd.int .i64) w A1 l1.length l1) (hc1 : l1.length ≤ c1) (hB : B < w.heap.size) (hcell : w.cell? ⟨B, 0, none⟩ = some (.slice A1 l1.length c1)) (h : prefAny.l0 k l0 l1 0 = some r) :
    Calls Try.prog 54 #[.slice A0 l0.length c0, .func (.func 55) #[] #[.pointer (some ⟨B, 0, none⟩)]] w fun e w' => e = .returned (.bool (decide (0 ≤ r))) ∧ Drawn0 w w' := by
  have hcon := fun m => prefAny.finds k A0 c0 l0 A1 c1 l1 B r (w.drewN m) (Zr hr0 _) hc0 (Zr hr1 _) hc1 (by simpa [World.drewN] using hB) (((pw_below_drewN (Below.refl w.heap.size w) m).cell (p := ⟨B, 0, none⟩) hB).trans hcell) h
  have hcon0 := prefAny.finds k A0 c0 l0 A1 c1 l1 B r w hr0 hc0 hr1 hc1 hB hcell h
  clear hr0 hr1 h hcell
  have hge : decide (r ≥ 0) = decide (0 ≤ r) := rfl
  go_enter Try.func54, Try.ntmps54
  go_wp2_with (go_at_call 82; first | (refine hcon0.mono ?_; rintro e w' ⟨rfl, ⟨nd, rfl⟩⟩) | (refine (hcon _).mono ?_; rintro e w' ⟨rfl, ⟨nd, rfl⟩⟩))
  go_ret
  exact ⟨by first | rfl | (simp; done), dr_⟩
section
variable {E lo hi base : Nat} {w2 w' W W' : World} {V v : Value} {t : List (List Int)} {f : Nat → Nat} {xs : List (List Value)} {ok : Nat → Prop}
theorem raw_keep (h : (Kd.raw 1).R E W base ok v xs) (hk : ∀ k, v.ownBlock = some k → W'.heap[k]? = W.heap[k]?) : (Kd.raw 1).R E W' base ok v xs := by
  obtain ⟨h0, inner, ho, hr⟩ := h
  exact ⟨h0, inner, own_move ho hk, hr⟩
theorem seg_one {β : Type} (l : List β) (j : Nat) (z : β) (h : l[j]? = some z) : (l.drop (j * 1)).take 1 = [z] := by
  obtain ⟨hj, e⟩ := List.getElem?_eq_some_iff.1 h
  rw [Nat.mul_one, List.drop_eq_getElem_cons hj, e, List.take_succ_cons, List.take_zero]
/-- Rows picked out of a row whose rows lie apart, each once, lie apart. -/
theorem S_pick (hd : Nat → Value) (J : List Nat) (hM : ∀ j, j ∈ J → (Kd.slice 3 (Kd.int .i64)).M w2 lo (fun k => (lo ≤ k ∧ k < hi) ∧ f k = j) (t.getD j []) [hd j]) (hfr : ∀ k, lo ≤ k → k < hi → w'.heap[k]? = w2.heap[k]?) (hb : base ≤ lo) (hJn : J.Nodup) (hR : (Kd.raw 1).R E w' base (fun k => ¬ (lo ≤ k ∧ k < hi)) v (J.map fun j => [hd j])) : Kd.S (Kd.slice 3 (Kd.int .i64)) E w' base (fun _ => True) v (J.map fun j => t.getD j []) := by
  obtain ⟨h0, inner, ho, hr⟩ := hR
  refine ⟨fun k => J.idxOf (f k), fun _ _ => trivial, inner, ?_, ?_, ?_⟩
  · have := ho
    rw [List.length_map] at this
    rw [List.length_zipIdx, List.length_map]
    exact this
  · have := hr.1
    rw [List.length_map] at this
    rw [List.length_zipIdx, List.length_map]
    exact this
  · intro i p hp
    rw [List.getElem?_zipIdx, List.getElem?_map] at hp
    obtain ⟨j, hj⟩ : ∃ j, J[i]? = some j := by
      cases hj : J[i]? with
      | none => rw [hj] at hp; simp at hp
      | some j => exact ⟨j, rfl⟩
    rw [hj] at hp
    simp only [Option.map_some, Option.some.injEq] at hp
    subst hp
    have hseg := (hr.2 i [hd j] (by rw [List.getElem?_map, hj]; rfl)).1
    have hjm := List.mem_of_getElem? hj
    have h1 := (Kd.slice 3 (Kd.int .i64)).M_lower hb ((Kd.slice 3 (Kd.int .i64)).M_move (w1 := w') (fun k hk => hfr k hk.1.1 hk.1.2) (hM j hjm))
    have hidx : J.idxOf j = i := by
      obtain ⟨hlt, e⟩ := List.getElem?_eq_some_iff.1 hj
      rw [← e]
      exact hJn.idxOf_getElem i hlt
    show (Kd.slice 3 (Kd.int .i64)).M w' base (fun k => (True ∧ some k ≠ v.ownBlock) ∧ J.idxOf (f k) = 0 + i) (t.getD j []) ((inner.drop (i * 1)).take 1)
    rw [show (inner.drop (i * 1)).take 1 = [hd j] from hseg]
    refine (Kd.slice 3 (Kd.int .i64)).M_mono (fun k hk => ⟨⟨trivial, fun he => h0 k he.symm hk.1⟩, ?_⟩) h1
    show J.idxOf (f k) = 0 + i
    rw [hk.2, hidx, Nat.zero_add]
end
set_option maxHeartbeats 8000000 in
set_option maxRecDepth 100000 in
theorem impl_Preferred.calls (k : Nat) (a0_0 : Int) (A0_1 : Option Addr) (c0_1 : Nat) (l0_1 : List (List Int)) (r : List (List Int)) (w : World) (hr0_1 : Kd.C (Kd.slice 3 (Kd.int .i64)) w A0_1 l0_1.length l0_1) (hc0_1 : l0_1.length ≤ c0_1) (h : impl_Preferred.f k a0_0 l0_1 = some r) :
    Calls Try.prog 19 #[.agg #[.int .i64 a0_0, .slice A0_1 l0_1.length c0_1]] w fun e w' => ∃ v0_ : Value, e = .returned (v0_) ∧ Kd.S (Kd.slice 3 (Kd.int .i64)) 38 w' w.heap.size (fun _ => True) v0_ r ∧ Below w.heap.size w w' := by
  have hu27 := Try.underlying27
  have HR0_1 := Aside0.mk hr0_1
  have HC0_1 := Aside0.mk hc0_1
  clear hr0_1 hc0_1
  have HB := Aside0.mk (Below.refl w.heap.size w)
  have H : ((impl_AllComplete.f k a0_0 l0_1).bind fun t => impl_Preferred.l0 k ([] : List (List Int)) t 0) = some r := h
  clear h
  obtain ⟨t, A20, H⟩ := Option.bind_eq_some_iff.mp H
  have A2 := Aside0.mk A20
  clear A20
  have H' := Aside0.mk H
  clear H
  go_enter Try.func19, Try.ntmps19
  go_wp2_with (first
    | ((with_reducible refine Zy (N := 1) rfl ?_); refine Zz ?hg (N := 1) ?hd (cs := #[.int .i64 a0_0, .slice A0_1 l0_1.length c0_1]) (t := 27) ?hr ?_; (case hd => rfl); (case hg => rfl); (case hr => first | (go_simp; done) | (go_simp; rfl)); intro gbG hg w3 hbox hb; have n0_ := Aside0.mk (Zf HB.out hb); have BKG := Aside0.mk hbox; clear HB; have HB := n0_; clear n0_ hb hbox hg; have hcz6_0 : w3.cell? ⟨gbG, 0, none⟩ = some (.int .i64 a0_0) := (Ze BKG.out 0).trans rfl; have hcz6_1 : w3.cell? ⟨gbG, 1, none⟩ = some (.slice A0_1 l0_1.length c0_1) := (Ze BKG.out 1).trans rfl)
    | ((with_reducible refine Zg (f := 53) rfl ?_); refine Zw (some 8) rfl rfl Try.func53 (by kernel_rfl) rfl #[.agg #[.int .i64 a0_0, .slice A0_1 l0_1.length c0_1]] rfl (by (try simp only [List.map_toArray, List.map_cons, List.map_nil]); first | done | rfl) ?_; (with_reducible refine (impl_AllComplete.calls k a0_0 _ _ l0_1 t _ ?side1 ?side2 A2.out).mono ?_); (case side1 => exact cb_ HR0_1.out); (case side2 => exact HC0_1.out); rintro e w7 ⟨vA, rfl, hoA, hbA⟩; refine ⟨_, rfl, ?_⟩; obtain ⟨lo, HLO, HSX⟩ : ∃ lo, Aside0 (w.heap.size ≤ lo) ∧ Aside0 (Kd.S (Kd.slice 3 (Kd.int .i64)) 38 w7 lo (fun _ => True) vA t) := ⟨_, ⟨Zk HB.out⟩, ⟨hoA⟩⟩; have n0_ := Aside0.mk (Zf HB.out hbA); clear HB; have HB := n0_; clear n0_ hbA hoA; obtain ⟨Ao, co, eo⟩ := Kd.S_slice HSX.out; subst eo)
    | ((with_reducible refine Zy (N := 9) rfl ?_); refine Kd.R_lit (Kd.raw 1) _ 38 ?hg (N := 9) ?hd (xs := ([] : List (List Value))) (inner := []) (ok := fun _ => True) (okp := fun _ => True) ?hr ?hp (fun _ hk => hk) trivial (Below.refl _ _) (Nat.le_refl _) (by simp) ?_; (case hd => rfl); (case hg => rfl); (case hr => first | (go_simp; done) | (go_simp; rfl)); (case hp => exact (Reps.none _ _)); intro v9 w9 ho9 hb9 hg9 hnew9))
  obtain ⟨f, hS0, inner, hSo, hSr⟩ := Kd.S_bound HSX.out
  rw [List.length_zipIdx] at hSo
  rw [show (Kd.tag f (Kd.slice 3 (Kd.int .i64))).sz = 1 from rfl] at hSo hSr
  have hil : inner.length = t.length := by have := hSo.1; omega
  obtain ⟨hi, hhi⟩ : ∃ n, n = w7.heap.size := ⟨_, rfl⟩
  obtain ⟨hd, hhd⟩ : ∃ h : Nat → Value, h = fun j => inner.getD j (.int .i64 0) := ⟨_, rfl⟩
  have HM : Aside0 (∀ j, j < t.length → (Kd.slice 3 (Kd.int .i64)).M w7 lo (fun k => (lo ≤ k ∧ k < hi) ∧ f k = j) (t.getD j []) [hd j]) := ⟨fun j hj => by
    have h1 := hSr.2 j _ (Kd.zip_at (show t[j]? = some (t.getD j []) by rw [List.getD_eq_getElem?_getD, List.getElem?_eq_getElem hj]; rfl))
    rw [seg_one inner j (hd j) (by rw [show hd j = inner.getD j (.int .i64 0) by rw [hhd], List.getD_eq_getElem?_getD, List.getElem?_eq_getElem (by omega)]; rfl)] at h1
    exact (Kd.slice 3 (Kd.int .i64)).M_mono (fun k hk => ⟨⟨hk.1.1.2.1, by rw [hhi]; exact hk.1.1.2.2.1⟩, hk.2⟩) h1⟩
  have HCELL : Aside0 (∀ j, j < t.length → ∃ g, Ao = some ⟨g, 0, none⟩ ∧ (lo ≤ g ∧ g < hi) ∧ w7.cell? ⟨g, 0 + j, none⟩ = some (hd j)) := ⟨fun j hj => by
    rcases hSo.2 with ⟨_, hz⟩ | ⟨g, cap, cur, he, hbg, hh, hnc, hcm, hcs, ht⟩
    · omega
    · injection he with e1 e2 e3
      refine ⟨g, e1, ⟨hbg, by rw [hhi]; exact (Array.getElem?_eq_some_iff.1 hh).1⟩, ?_⟩
      rw [Nat.mul_one] at ht
      have h1 : (cur.toList.take t.length)[j]? = some (hd j) := by rw [ht, show hd j = inner.getD j (.int .i64 0) by rw [hhd], List.getD_eq_getElem?_getD, List.getElem?_eq_getElem (by omega)]; rfl
      rw [List.getElem?_take_of_lt hj] at h1
      simp only [World.cell?, hh, Nat.zero_add]
      simp only [Option.isSome_none, Bool.false_eq_true, if_false]
      rw [← Array.getElem?_toList, h1]⟩
  have HO9 : Aside0 ((Kd.raw 1).R 38 w9 w.heap.size (fun k => w7.heap.size ≤ k) v9 (([] : List Nat).map fun j => [hd j])) := ⟨Kd.R_lower (Kd.R_mono (Kd.R_bound ho9) (fun k hk => hk.2.1)) (Zk HB.out)⟩
  have HF9 := Aside0.mk hb9
  have HC7 := Aside0.mk (Zq HSX.out)
  have HB9 := Aside0.mk (Zf HB.out hb9)
  clear HB ho9 hb9 hg9 hnew9 hSo hSr hS0 hhd hil HSX
  go_loopg [4, 12] k (fun kq v4 v12 w' => ∃ (J : List Nat) (x12 : Int), v12 = .int .i64 x12 ∧ Aside0 (impl_Preferred.l0 kq (J.map fun j => t.getD j []) t x12 = some r) ∧ Aside0 (kq ≤ k) ∧ Aside0 ((Kd.raw 1).R 38 w' w.heap.size (fun k => w7.heap.size ≤ k) v4 (J.map fun j => [hd j])) ∧ Aside0 (Below w7.heap.size w7 w') ∧ Aside0 (J.Nodup ∧ (∀ j ∈ J, (j : Int) < x12 ∧ j < t.length)) ∧ Aside0 (Below w.heap.size w w'))
  case atStart => exact ⟨[], 0, rfl, H', ⟨Nat.le_refl _⟩, HO9, HF9, ⟨List.nodup_nil, fun j hj => absurd hj (by simp)⟩, HB9⟩
  case round =>
    clear H' HO9 HF9 HB9
    obtain ⟨J, x12, rfl, HA, HK1, HO, HF, HJ, HB⟩ := hrel
    cases gk with
    | zero => exact absurd HA.out (by simp [impl_Preferred.l0])
    | succ k1 =>
      have H := HA.out
      clear HA
      simp only [impl_Preferred.l0] at H
      by_cases c3 : x12 < (t.length : Int)
      · rw [if_pos c3] at H
        have c3b0 : decide (x12 < (t.length : Int)) = true := decide_eq_true c3
        by_cases c4 : 0 ≤ x12
        · rw [if_pos c4] at H
          have c4b0 : decide (0 ≤ x12) = true := decide_eq_true c4
          obtain ⟨tq, A60, H⟩ := Option.bind_eq_some_iff.mp H
          obtain ⟨row, hrow⟩ : ∃ row : List Int, row = t.getD x12.toNat [] := ⟨_, rfl⟩
          have A6 : Aside0 (prefAny.l0 k1 t row 0 = some tq) := ⟨by rw [hrow]; exact A60⟩
          clear A60
          have hx : x12.toNat < t.length := by omega
          obtain ⟨g, hAo, hgi, hcl7⟩ := HCELL.out x12.toNat hx
          obtain ⟨ad, had⟩ : ∃ ad, ad = (⟨g, 0, none⟩ : Addr) := ⟨_, rfl⟩
          rw [← had] at hAo
          have hMi := HM.out x12.toNat hx
          rw [← hrow] at hMi
          obtain ⟨Ai, ci, hei, hli, hCi⟩ := (Kd.slice 3 (Kd.int .i64)).K_of_M ((Kd.slice 3 (Kd.int .i64)).M_move (w1 := wr) (fun k hk => HF.out.block k (by rw [← hhi]; exact hk.1.2)) hMi)
          have hei : hd x12.toNat = .slice Ai row.length ci := by injection hei
          have hx15 : wr.cell? (ad.add x12.toNat) = some (.slice Ai row.length ci) := by
            rw [← hei, ← hcl7, had, add_at]
            unfold World.cell?
            rw [HF.out.block g (by rw [← hhi]; exact hgi.2)]
          have p101 : 0 ≤ (x12 : Int) := c4
          have q101 : x12 < (t.length : Int) := c3
          clear c3 c4
          replace p101 := eq_true p101
          replace q101 := eq_true q101
          subst hAo
          obtain ⟨_, hco, hC7⟩ := HC7.out
          have hlen : t.length ≤ 9223372036854775807 := hC7.2.1
          have hCw := Kd.C_below hC7 HF.out
          have hw1 : wrap64 (x12 + 1) = x12 + 1 := by
            have := of_decide_eq_true c3b0
            have := of_decide_eq_true c4b0
            unfold wrap64
            omega
          have HALL := Aside0.mk hCw
          have HROW := Aside0.mk hCi
          have HCO := Aside0.mk hco
          have HLI := Aside0.mk hli
          have HEI := Aside0.mk hei
          have HROWE := Aside0.mk hrow
          clear hrow hx
          clear hC7 hCw hCi hco hli hei hMi hcl7 had
          have HCALL : ∀ (w5 : World) (gA m : Nat), w5.heap[gA]? = some (.cells #[.slice none 0 0] 38 (0, 0)) → wr.heap.size ≤ gA → Below wr.heap.size wr w5 → Calls Try.prog 54 #[.slice (some ad) t.length co, .func (.func 55) #[] #[.pointer (some ⟨gA, 0, none⟩)]] ((w5.setCell ⟨gA, 0, none⟩ (.slice Ai row.length ci)).drewN m) fun e w' => e = .returned (.bool (decide (0 ≤ tq))) ∧ Below wr.heap.size wr w' ∧ w'.cell? ⟨gA, 0, none⟩ = some (.slice Ai row.length ci) := by
            intro w5 gA m hbox hgA hb5
            have hput := blk_put hbox 0 (.slice Ai row.length ci) rfl
            have hbs := below_set (j := 0) (v := .slice Ai row.length ci) hb5 hgA
            have hbm := pw_below_drewN hbs m
            refine (prefAny.calls k1 (some ad) co t Ai ci row gA tq _ (Kd.C_below HALL.out hbm) HCO.out (Kd.C_below HROW.out hbm) HLI.out (blk_lt hput) ((Ze hput 0).trans rfl) A6.out).mono ?_
            rintro e w' ⟨rfl, nd, rfl⟩
            exact ⟨rfl, pw_below_drewN hbm nd, (Ze hput 0).trans rfl⟩
          by_cases c6 : 0 ≤ tq
          · rw [if_pos c6] at H
            have c6b : decide (0 ≤ tq) = true := decide_eq_true c6
            clear c6
            rw [hw1] at H
            have H' := Aside0.mk H
            clear H
            go_wp2_with (first
              | ((with_reducible refine Zy (N := 6) rfl ?_); refine Zz ?hg (N := 6) ?hd (cs := #[.slice none 0 0]) (t := 38) ?hr ?_; (case hd => rfl); (case hg => rfl); (case hr => first | (go_simp; done) | (go_simp; rfl)); intro gA hgA w5 hbox hb5; have HC5 := HCALL w5 gA 0 hbox (Nat.le_of_eq hgA.symm) hb5; have hcz5 : w5.cell? ⟨gA, 0, none⟩ = some (.slice none 0 0) := (Ze hbox 0).trans rfl; have hfz5 := Zd hbox 0; clear hbox hb5 hgA HCALL)
              | (go_at_call 54; refine HC5.mono ?_; rintro e w8 ⟨rfl, hb8, hcz8⟩; have HB8 := Aside0.mk hb8; clear hb8))
            go_roundg k1
            case measure => have := HK1.out; omega
            case rel => exact ⟨J, x12 + 1, (by first | rfl | rw [hw1]), H', ⟨by have := HK1.out; omega⟩, ⟨raw_keep HO.out (fun k hk => HB8.out.block k (Kd.R_lt HO.out k hk))⟩, ⟨Zf HF.out HB8.out⟩, ⟨HJ.out.1, fun j hj => ⟨by have := (HJ.out.2 j hj).1; omega, (HJ.out.2 j hj).2⟩⟩, ⟨Zf HB.out HB8.out⟩⟩
          · rw [if_neg c6] at H
            have c6b : decide (0 ≤ tq) = false := decide_eq_false c6
            clear c6
            by_cases c7 : (J.map fun j => t.getD j []).length < 5864062014805
            · rw [if_pos c7] at H
              rw [hw1] at H
              have hJl : J.length < 5864062014805 := by rwa [List.length_map] at c7
              clear c7
              have H' : Aside0 (impl_Preferred.l0 k1 ((J ++ [x12.toNat]).map fun j => t.getD j []) t (x12 + 1) = some r) := ⟨by rw [List.map_append]; exact H⟩
              clear H
              go_wp2_with (first
                | ((with_reducible refine Zy (N := 6) rfl ?_); refine Zz ?hg (N := 6) ?hd (cs := #[.slice none 0 0]) (t := 38) ?hr ?_; (case hd => rfl); (case hg => rfl); (case hr => first | (go_simp; done) | (go_simp; rfl)); intro gA hgA w5 hbox hb5; have HC5 := HCALL w5 gA 0 hbox (Nat.le_of_eq hgA.symm) hb5; have hcz5 : w5.cell? ⟨gA, 0, none⟩ = some (.slice none 0 0) := (Ze hbox 0).trans rfl; have hfz5 := Zd hbox 0; clear hbox hb5 hgA HCALL)
                | (go_at_call 54; refine HC5.mono ?_; rintro e w8 ⟨rfl, hb8, hcz8⟩; have HB8 := Aside0.mk hb8; clear hb8)
                | ((with_reducible refine gate_builtin (b := .append) (xs := #[.tmp 20, .tmp 22]) rfl ?_); at_builtin; refine Kd.R_append (Kd.raw 1) (w0 := w) w.heap.size rfl (.tmp 20) (.tmp 22) 22 38 (.slice none 0 0) 24 rfl Try.underlying22 info38 rfl (by decide) (by omega) u4 (J.map fun j => [hd j]) [hd x12.toNat] [.slice Ai row.length ci] (fun k => w7.heap.size ≤ k) (fun _ => False) rfl rfl ?aP (fun _ hk => hk.elim) ?aF ?aO ?aB ?aS ?aL ?_; (case aP => exact ⟨by rw [HEI.out], rfl, fun u hu => by rw [List.mem_singleton.1 hu]; rfl⟩); (case aF => exact fun k hk => Nat.le_trans (Nat.le_trans (Zk HF.out) (Zk HB8.out)) hk); (case aO => exact raw_keep HO.out (fun k hk => HB8.out.block k (Kd.R_lt HO.out k hk))); (case aB => exact Zf HB.out HB8.out); (case aS => exact Zk (Zf HB.out HB8.out)); (case aL => rw [List.length_map]; omega); intro v23 w23 ho23 hb23 hg23 hat23; have HO2 := Aside0.mk ho23; have HF2 := Aside0.mk ((Zf HF.out HB8.out).grown hg23 (Zk (Zf HF.out HB8.out)) (fun k hk => HO.out.1 k hk)); have HB2 := Aside0.mk hb23; clear ho23 hb23 hg23 hat23))
              go_roundg k1
              case measure => have := HK1.out; omega
              case rel => exact ⟨J ++ [x12.toNat], x12 + 1, (by first | rfl | rw [hw1]), H', ⟨by have := HK1.out; omega⟩, ⟨by rw [List.map_append]; exact HO2.out⟩, HF2, ⟨List.nodup_append.2 ⟨HJ.out.1, by simp, fun a ha b hb => by rw [List.mem_singleton.1 hb]; have := (HJ.out.2 a ha).1; omega⟩, fun j hj => by
                have q1 := of_decide_eq_true c3b0
                have q2 := of_decide_eq_true c4b0
                rcases List.mem_append.1 hj with hj | hj
                · have := HJ.out.2 j hj
                  omega
                · rw [List.mem_singleton.1 hj]
                  omega⟩, HB2⟩
            · rw [if_neg c7] at H
              exact absurd H (by simp)
        · rw [if_neg c4] at H
          exact absurd H (by simp)
      · rw [if_neg c3] at H
        have c3b0 : decide (x12 < (t.length : Int)) = false := decide_eq_false c3
        clear c3
        obtain rfl := Option.some.inj H
        go_wp2
        go_ret
        exact ⟨_, rfl, S_pick hd J (fun j hj => HM.out j (HJ.out.2 j hj).2) (fun k _ h2 => HF.out.block k (by rw [← hhi]; exact h2)) HLO.out HJ.out.1 (Kd.R_mono (by first | exact HO.out | exact Kd.R_drewN HO.out _ | exact Kd.R_drew HO.out) (fun k hk hc => by have := hc.2; omega)), by first | exact HB.out | exact pw_below_drewN HB.out _ | exact below_drew1 HB.out⟩

/-! ### laws_markIntS: function 36 -/
def laws_markIntS.l0 : Nat → List Int → Int → Int → Option (Int × List Int)
 | 0, _, _, _ => none
 | k + 1, x0, x1, x5 => if x5 < (x0.length : Int) then (if 0 ≤ x5 then (laws_markIntS.l0 k (x0.set (x5 : Int).toNat x1) (wrap64 (x1 + 1)) (wrap64 (x5 + 1))) else (none)) else (some (x1, x0))
def laws_markIntS.f (k : Nat) (l0 : List Int) (a1 : Int) : Option (Int × List Int) := laws_markIntS.l0 k l0 a1 0
theorem laws_markIntS.mono_l : ∀ k, (∀ y0 y1 y2, LeO (laws_markIntS.l0 k y0 y1 y2) (laws_markIntS.l0 (k + 1) y0 y1 y2))
 | 0 => fun _ _ _ r h => by simp [laws_markIntS.l0] at h
 | k + 1 => by
  have ih0 := laws_markIntS.mono_l k
  ·intro y0 y1 y2
   unfold laws_markIntS.l0
   repeat' first
   | (with_reducible exact ih0 _ _ _)
   | (with_reducible exact Zv _)
   | (with_reducible exact Zh _)
   | (with_reducible refine Zn ?_ ?_)
   | (with_reducible refine Zi ?_ (fun _ => ?_))
   | exact ih0 _ _ _
   | exact Zh _
   | refine Zn ?_ ?_
   | refine Zi ?_ (fun _ => ?_)
theorem laws_markIntS.mono : ∀ a0 a1 k, LeO (laws_markIntS.f k a0 a1) (laws_markIntS.f (k + 1) a0 a1) := by
 intro a0 a1 k
 have ih0 := laws_markIntS.mono_l k
 unfold laws_markIntS.f
 repeat' first
   | (with_reducible exact ih0 _ _ _)
   | (with_reducible exact Zv _)
   | (with_reducible exact Zh _)
   | (with_reducible refine Zn ?_ ?_)
   | (with_reducible refine Zi ?_ (fun _ => ?_))
   | exact ih0 _ _ _
   | exact Zh _
   | refine Zn ?_ ?_
   | refine Zi ?_ (fun _ => ?_)
set_option maxHeartbeats 8000000 in
set_option maxRecDepth 100000 in
theorem laws_markIntS.calls (k : Nat) (P0_ : Nat → Prop) (u9000_ : Value) (l0 : List Int) (a1 : Int) (r1 : Int) (r2 : List Int) (w0 w : World) (hB : Below w0.heap.size w0 w) (ho0 : Kd.R (Kd.int .i64) 3 w w0.heap.size P0_ u9000_ l0) (h : laws_markIntS.f k l0 a1 = some (r1, r2)) :
  Calls Try.prog 36 #[u9000_, .int .i64 a1] w fun e w' => e = .returned (.int .i64 r1) ∧ Kd.R (Kd.int .i64) 3 w' w0.heap.size (fun k_ => (P0_ k_ ∨ w.heap.size ≤ k_)) u9000_ r2 ∧ Below w0.heap.size w0 w' ∧ Kept w w' (fun k_ => P0_ k_) := by
 have HO0 := Aside0.mk (show Kd.R (Kd.int .i64) 3 w w0.heap.size (fun k_ => (P0_ k_ ∨ w.heap.size ≤ k_)) u9000_ l0 from Kd.R_mono ho0 (fun k_ hk => (.inl hk)))
 have HK := Aside0.mk (Kept.refl w (fun k_ => P0_ k_))
 have HW0 := Aside0.mk hB.size
 have HB := Aside0.mk hB
 clear hB
 have H : (laws_markIntS.l0 k l0 a1 0) = some (r1, r2) := h
 clear h
 have H' := Aside0.mk H
 clear H
 go_enter Try.func36, Try.ntmps36
 go_wp2
 go_loopg [1, 5] k (fun kq v1 v5 w' => ∃ (x0_1 : List Int) (x1_1 : Int) (x5_1 : Int), v1 = .int .i64 x1_1 ∧ v5 = .int .i64 x5_1 ∧ Aside0 (laws_markIntS.l0 kq x0_1 x1_1 x5_1 = some (r1, r2)) ∧ Aside0 (kq ≤ k) ∧ Aside0 (Kd.R (Kd.int .i64) 3 w' w0.heap.size (fun k_ => (P0_ k_ ∨ w.heap.size ≤ k_)) u9000_ x0_1) ∧ Aside0 (Kept w w' (fun k_ => P0_ k_)) ∧ Aside0 (Below w0.heap.size w0 w'))
 case atStart => exact ⟨(l0), (a1), (0), sm_, sm_, H', ⟨Nat.le_refl _⟩, ⟨rR_ HO0.out⟩, ⟨by repeat (first | (with_reducible first | exact HK.out | apply Kept.alloc | apply Kept.drewN | apply Kept.drew) | exact HK.out)⟩, ⟨hb_⟩⟩
 case round =>
  clear H'
  try clear p2
  obtain ⟨x0_1, x1_1, x5_1, rfl, rfl, HA, HK1, HO_0, HK, HB⟩ := hrel
  cases gk with
  | zero => exact absurd HA.out (by simp [laws_markIntS.l0])
  | succ k1 =>
   have H := HA.out
   clear HA
   simp only [laws_markIntS.l0] at H
   by_cases c3 : x5_1 < (x0_1.length : Int)
   ·rw [if_pos c3] at H
    have c3b0 : decide (x5_1 < (x0_1.length : Int)) = true := decide_eq_true c3
    clear c3
    by_cases c4 : 0 ≤ x5_1
    ·rw [if_pos c4] at H
     have c4b0 : decide (0 ≤ x5_1) = true := decide_eq_true c4
     clear c4
     obtain ⟨y413, hy413⟩ : ∃ y_ : List Int, y_ = (x0_1.set (x5_1 : Int).toNat x1_1) := ⟨_, rfl⟩
     replace H : (laws_markIntS.l0 k1 y413 (wrap64 (x1_1 + 1)) (wrap64 (x5_1 + 1))) = some (r1, r2) := hy_ hy413 H
     have Ny413 := Aside0.mk hy413
     clear hy413
     have H' := Aside0.mk H
     clear H
     obtain ⟨Ao6, co6, eo6⟩ := Kd.R_slice HO_0.out
     subst eo6
     have p5 : 0 ≤ (x5_1 : Int) := of_decide_eq_true as_
     have q5 : (x5_1 : Int) < ((x0_1.length : Int) : Int) := of_decide_eq_true as_
     obtain ⟨go5, co5, eo5, gb5, gl5, cl5, HG5⟩ := Kd.R_form HO_0.out (by omega)
     (first | cases eo5 | (injection eo5 with ea_ en_ ec_; (first | subst ea_ | (injection ea_ with ea_; subst ea_)); subst ec_; clear en_))
     have GB5 := Aside0.mk gb5
     have GG5 := Aside0.mk HG5
     clear gb5 gl5 HG5
     have HMgo5 := Aside0.mk (show (P0_ go5 ∨ w.heap.size ≤ go5) from (HO_0.out.1 _ rfl))
     obtain ⟨hx5_0, hf5_0⟩ := Kd.R_celln 0 HO_0.out (x5_1 : Int) p5 q5
     replace p5 := eq_true p5
     replace q5 := eq_true q5
     have HP7 := Kd.R_putg HO_0.out (x5_1 : Int) x1_1
     go_wp2_with (first | ((with_reducible refine gate_store (t := 3) (p := 15) rfl ?_); refine store_event (t := 3) (p := 15) (v := ?vo_w8) (w1 := (wr.setCell ⟨go5, (x5_1 : Int).toNat, none⟩ (.int .i64 x1_1))) ?hg ?ho ?hn ?hr ?_; (case ho => rfl); (case hg => rfl); (case hn => rfl); (case hr => first | (go_simp; done) | (go_simp; rfl)); intro w8 hw; have hg : wr.grownBy w8 (some go5) := (by rw [hw]; exact HP7.2); have hp_ : Kd.R (Kd.int .i64) 3 w8 w0.heap.size (fun k_ => (P0_ k_ ∨ w.heap.size ≤ k_)) (.slice (some ⟨go5, 0, none⟩) x0_1.length co6) y413 := (by rw [hw, Ny413.out]; exact HP7.1); clear HP7; have n0_ := Aside0.mk (hp_); have n1_ := Aside0.mk ((by rw [hw]; exact below_set (HB.out) GB5.out : Below w0.heap.size w0 w8)); have n2_ := Aside0.mk (Kept.of_grown (S := (fun k_ => P0_ k_)) hg (by repeat (first | (with_reducible first | exact HK.out | apply Kept.alloc | apply Kept.drewN | apply Kept.drew) | exact HK.out)) (fun k_ e_ => (HO_0.out.1 k_ e_))); clear HO_0; clear HB; clear HK; have HO_0 := n0_; have HB := n1_; have HK := n2_; clear n0_ n1_ n2_; clear hg hw hp_))
     go_roundg k1
     case measure => have := HK1.out; omega
     case rel => exact ⟨(y413), (wrap64 (x1_1 + 1)), (wrap64 (x5_1 + 1)), sm_, sm_, H', ⟨by have := HK1.out; omega⟩, ⟨rR_ HO_0.out⟩, ⟨by repeat (first | (with_reducible first | exact HK.out | apply Kept.alloc | apply Kept.drewN | apply Kept.drew) | exact HK.out)⟩, ⟨hb_⟩⟩
    ·rw [if_neg c4] at H
     exact absurd H (by simp)
   ·rw [if_neg c3] at H
    have c3b0 : decide (x5_1 < (x0_1.length : Int)) = false := decide_eq_false c3
    clear c3
    simp only [Option.some.injEq, Prod.mk.injEq] at H
    obtain ⟨rfl, rfl⟩ := H
    obtain ⟨Ao9, co9, eo9⟩ := Kd.R_slice HO_0.out
    subst eo9
    go_wp2
    go_ret
    exact ⟨er_, rR_ HO_0.out, hb_, by repeat (first | (with_reducible first | exact HK.out | apply Kept.alloc | apply Kept.drewN | apply Kept.drew) | exact HK.out)⟩

/-! ### laws_markIntSS: function 22 -/
/-- Elements whose blocks are some of A's alone. -/
def KSp {α : Type} (A : Nat → Prop) (d : Kd α) : Kd α where
  sz := d.sz
  E := d.E
  K := d.K
  M := fun w base ok x cs => d.M w base (fun k => ok k ∧ A k) x cs
  K_len := fun h => d.K_len h
  K_one := fun h => d.K_one h
  K_below := fun hb h => d.K_below hb h
  K_of_M := fun h => d.K_of_M h
  M_mono := fun hok h => d.M_mono (fun k hk => ⟨hok k hk.1, hk.2⟩) h
  M_bound := fun h => d.M_mono (fun _ hk => ⟨⟨hk.1.1, hk.2⟩, hk.1.2⟩) (d.M_bound h)
  M_move := fun hm h => d.M_move (fun k hk => hm k hk.1) h
  M_lower := fun hb h => d.M_lower hb h
section
variable {α : Type} {d : Kd α} {A B : Nat → Prop} {e t n base b0 : Nat} {ok ok2 : Nat → Prop} {w W W2 : World} {u v : Value} {xs : List α}
theorem spE_ (h : ∀ q, q ∈ e :: d.E → q ≠ t) : ∀ q, q ∈ e :: (KSp A d).E → q ≠ t := h
theorem S_readsSp {c : Nat} {A0 : Option Addr} (h : Kd.S (KSp A d) e W base ok (.slice A0 n c) xs) : n = xs.length ∧ n ≤ c ∧ d.C W A0 xs.length xs := by
  have h0 := Zq h
  exact h0
theorem S_VSp (h : Kd.S (KSp A d) e W base ok v xs) : Kd.V d e W b0 ok v xs := by
  have h0 : Kd.V (KSp A d) e W b0 ok v xs := Kd.S_V h
  exact h0
/-- The blocks that a row of rows leads to, and their types. -/
def SpOf (d : Kd α) (A : Nat → Prop) (W : World) (ok : Nat → Prop) (v : Value) (k : Nat) : Prop := ok k ∧ (some k = v.ownBlock ∨ (A k ∧ ∃ q, q ∈ d.E ∧ ∃ cells, W.heap[k]? = some (.cells cells q (0, 0))))
theorem S_newSp (h : Kd.S d e w b0 ok v xs) : ∃ n, n = b0 ∧ Kd.S (KSp (fun k_ => n ≤ k_) d) e w b0 ok v xs := by
  obtain ⟨f, h0, inner, ho, hr⟩ := h
  exact ⟨b0, rfl, f, h0, inner, ho, hr.imp_ (fun _ _ hp => d.M_mono (fun _ hk => ⟨hk.1, hk.2.1⟩) (d.M_bound hp))⟩
theorem S_oldSp (h : Kd.S (KSp A d) e W base ok v xs) (hn : n = W.heap.size) : Kd.S (KSp (fun k_ => A k_ ∧ k_ < n) d) e W base ok v xs := by
  obtain ⟨f, h0, inner, ho, hr⟩ := h
  exact ⟨f, h0, inner, ho, hr.imp_ (fun _ _ hp => d.M_mono (fun _ hk => ⟨hk.1.1, hk.1.2, by rw [hn]; exact hk.2.2.1⟩) (d.M_bound hp))⟩
theorem S_ofSp (h : Kd.S (KSp A d) e W base ok v xs) : Kd.S d e W base (SpOf d A W ok v) v xs := by
  obtain ⟨f, h0, inner, ho, hr⟩ := h
  exact ⟨f, fun k hk => ⟨h0 k hk, .inl hk.symm⟩, inner, ho, hr.imp_ (fun _ _ hp => d.M_mono (fun _ hk => ⟨⟨⟨hk.1.1.1.1, .inr ⟨hk.1.2, hk.2.2.2⟩⟩, hk.1.1.1.2⟩, hk.1.1.2⟩) (d.M_bound hp))⟩
theorem S_toSp (h : Kd.S d e W2 base (SpOf d A W ok v) v xs) : Kd.S (KSp A d) e W2 base ok v xs := by
  obtain ⟨f, h0, inner, ho, hr⟩ := h
  exact ⟨f, fun k hk => (h0 k hk).1, inner, ho, hr.imp_ (fun _ _ hp => d.M_mono (fun _ hk => ⟨⟨⟨hk.1.1.1, hk.1.2⟩, hk.2⟩, hk.1.1.2.elim (fun e_ => absurd e_ hk.1.2) (fun a_ => a_.1)⟩) hp)⟩
/-- What a row of rows beside it keeps. -/
theorem S_besideSp (h : Kd.S (KSp B d) e W base ok2 v xs) (hk : Kept W W2 (fun k_ => SpOf d A W ok u k_ ∧ some k_ ≠ u.ownBlock)) (hAB : ∀ k, A k → B k → False) (he : ∀ q, q ∈ d.E → q ≠ e) : Kd.S (KSp B d) e W2 base ok2 v xs := by
  refine S_toSp (W := W) (Kd.S_kept (S_ofSp h) hk (fun k hf hs => ?_))
  rcases hs.1.2 with e_ | ⟨ha, q, hq, cells, hc⟩
  · exact hs.2 e_
  · rcases hf.2 with e_ | ⟨hb, _⟩
    · obtain ⟨cells', hc'⟩ := Kd.S_typed h k e_.symm
      rw [hc] at hc'
      injection hc' with hc'
      injection hc' with _ hq'
      exact he q hq hq'
    · exact hAB k ha hb
/-- A variable in memory is none of them. -/
theorem box_besideSp {g : Nat} {cs : Array Value} (hb : W.heap[g]? = some (.cells cs t (0, 0))) (ht : ∀ q, q ∈ d.E → q ≠ t) (hs : SpOf d A W ok u g ∧ some g ≠ u.ownBlock) : False := by
  rcases hs.1.2 with e_ | ⟨_, q, hq, cells, hc⟩
  · exact hs.2 e_
  · rw [hb] at hc
    injection hc with hc
    injection hc with _ hq'
    exact ht q hq hq'.symm
theorem box_keptSp {g : Nat} {cs : Array Value} (hb : W.heap[g]? = some (.cells cs t (0, 0))) (hk : Kept W W2 (fun k_ => SpOf d A W ok u k_ ∧ some k_ ≠ u.ownBlock)) (ht : ∀ q, q ∈ d.E → q ≠ t) : W2.heap[g]? = some (.cells cs t (0, 0)) := blk_kept hb hk (fun hs => box_besideSp hb ht hs)
/-- A row that leads to what is shared: all its blocks are elder than a later row's. -/
theorem N_oldSp (h : Kd.N d e W base ok v xs) (hn : n = W.heap.size) : Kd.N d e W base (fun k_ => ok k_ ∧ k_ < n) v xs := Zx (Kd.N_bound h) (fun k_ hk => ⟨hk.1, by rw [hn]; exact hk.2⟩)
theorem N_besideSp (h : Kd.N d e W base ok2 v xs) (hk : Kept W W2 (fun k_ => SpOf d A W ok u k_ ∧ some k_ ≠ u.ownBlock)) (hA : ∀ k, ok2 k → A k → False) : Kd.N d e W2 base ok2 v xs :=
  Kd.N_kept h hk (fun k hk_ hs => hs.1.2.elim hs.2 (fun a_ => hA k hk_ a_.1))
/-- A flat row that it is told apart from. -/
theorem R_besideSp {β : Type} {d2 : Kd β} {e2 : Nat} {ys : List β} (hE : d2.E = []) (h : d2.R e2 W base ok2 v ys) (hk : Kept W W2 (fun k_ => SpOf d A W ok u k_ ∧ some k_ ≠ u.ownBlock)) (ha : ∀ k, ok k → some k ≠ v.ownBlock) : d2.R e2 W2 base ok2 v ys :=
  Kd.R_mono (Kd.R_kept (Kd.R_tight2 hE h) hk (fun k hk_ hs => ha k hs.1.1 hk_.1)) (fun _ hk_ => hk_.2)
end
def laws_markIntSS.l0 : Nat → List (List Int) → Int → Int → Option (Int × List (List Int))
  | 0, _, _, _ => none
  | k + 1, x0, x1, x5 => if x5 < (x0.length : Int) then (if 0 ≤ x5 then ((laws_markIntS.f k (x0.getD x5.toNat []) x1).bind fun t => laws_markIntSS.l0 k (x0.set x5.toNat t.2) t.1 (wrap64 (x5 + 1))) else (none)) else (some (x1, x0))
def laws_markIntSS.f (k : Nat) (l0 : List (List Int)) (a1 : Int) : Option (Int × List (List Int)) := laws_markIntSS.l0 k l0 a1 0
theorem laws_markIntSS.mono_l : ∀ k, (∀ y0 y1 y2, LeO (laws_markIntSS.l0 k y0 y1 y2) (laws_markIntSS.l0 (k + 1) y0 y1 y2))
  | 0 => fun _ _ _ r h => by simp [laws_markIntSS.l0] at h
  | k + 1 => by
    have ih0 := laws_markIntSS.mono_l k
    · intro y0 y1 y2
      unfold laws_markIntSS.l0
      repeat' first
      | (with_reducible exact ih0 _ _ _)
      | (with_reducible exact laws_markIntS.mono _ _ _)
      | (with_reducible exact Zv _)
      | (with_reducible exact Zh _)
      | (with_reducible refine Zn ?_ ?_)
      | (with_reducible refine Zi ?_ (fun _ => ?_))
theorem laws_markIntSS.mono : ∀ a0 a1 k, LeO (laws_markIntSS.f k a0 a1) (laws_markIntSS.f (k + 1) a0 a1) := fun a0 a1 k => laws_markIntSS.mono_l k a0 a1 0
set_option maxHeartbeats 8000000 in
set_option maxRecDepth 100000 in
theorem laws_markIntSS.calls (k : Nat) (P0w_ : World → Nat → Prop) (u9000_ : Value) (l0 : List (List Int)) (a1 : Int) (r1 : Int) (r2 : List (List Int)) (w0 w : World) (hB : Below w0.heap.size w0 w) (ho0 : Kd.S (Kd.slice 3 (Kd.int .i64)) 38 w w0.heap.size (P0w_ w) u9000_ l0) (h : laws_markIntSS.f k l0 a1 = some (r1, r2)) :
    Calls Try.prog 22 #[u9000_, .int .i64 a1] w fun e w' => e = .returned (.int .i64 r1) ∧ Kd.S (Kd.slice 3 (Kd.int .i64)) 38 w' w0.heap.size (P0w_ w) u9000_ r2 ∧ Below w0.heap.size w0 w' ∧ Kept w w' (fun k_ => P0w_ w k_ ∧ some k_ ≠ (u9000_ : Value).ownBlock) := by
  generalize P0w_ w = P0_ at ho0 ⊢
  have HO0 := Aside0.mk ho0
  have HK := Aside0.mk (Kept.refl w (fun k_ => P0_ k_ ∧ some k_ ≠ (u9000_ : Value).ownBlock))
  have HB := Aside0.mk hB
  have H' := Aside0.mk (show laws_markIntSS.l0 k l0 a1 0 = some (r1, r2) from h)
  clear hB ho0 h
  go_enter Try.func22, Try.ntmps22
  go_wp2
  go_loopg [1, 5] k (fun kq v1 v5 w' => ∃ (x0_1 : List (List Int)) (x1_1 : Int) (x5_1 : Int), v1 = .int .i64 x1_1 ∧ v5 = .int .i64 x5_1 ∧ Aside0 (laws_markIntSS.l0 kq x0_1 x1_1 x5_1 = some (r1, r2)) ∧ Aside0 (kq ≤ k) ∧ Aside0 (Kd.S (Kd.slice 3 (Kd.int .i64)) 38 w' w0.heap.size P0_ u9000_ x0_1) ∧ Aside0 (Kept w w' (fun k_ => P0_ k_ ∧ some k_ ≠ (u9000_ : Value).ownBlock)) ∧ Aside0 (Below w0.heap.size w0 w'))
  case atStart => exact ⟨l0, a1, 0, sm_, sm_, H', ⟨Nat.le_refl _⟩, HO0, HK, HB⟩
  case round =>
    clear H'
    try clear p2
    obtain ⟨x0_1, x1_1, x5_1, rfl, rfl, HA, HK1, HO_0, HK, HB⟩ := hrel
    cases gk with
    | zero => exact absurd HA.out (by simp [laws_markIntSS.l0])
    | succ k1 =>
      have H := HA.out
      clear HA
      simp only [laws_markIntSS.l0] at H
      by_cases c3 : x5_1 < (x0_1.length : Int)
      · rw [if_pos c3] at H
        have c3b0 : decide (x5_1 < (x0_1.length : Int)) = true := decide_eq_true c3
        by_cases c4 : 0 ≤ x5_1
        · rw [if_pos c4] at H
          have c4b0 : decide (0 ≤ x5_1) = true := decide_eq_true c4
          obtain ⟨⟨t1, t2⟩, A70, H⟩ := Option.bind_eq_some_iff.mp H
          have H' := Aside0.mk (show laws_markIntSS.l0 k1 (x0_1.set x5_1.toNat t2) t1 (wrap64 (x5_1 + 1)) = some (r1, r2) from H)
          clear H
          obtain ⟨go5, co5, eo5, gb5, gl5, cl5, HG5⟩ := Kd.S_form HO_0.out (by omega)
          subst eo5
          obtain ⟨oki, c, hcl, hM, hcc, hoki, hH⟩ := Kd.S_lend HO_0.out [] x5_1 c4 (by omega)
          generalize x0_1.getD x5_1.toNat [] = row at hM A70
          have A7 := Aside0.mk A70
          clear A70
          obtain ⟨v, rfl, hR⟩ := hM
          have hx5 : wr.cell? ⟨go5, x5_1.toNat, none⟩ = some v := by
            have h0 := hcc 0 v rfl
            simpa only [show (Kd.slice 3 (Kd.int .i64)).sz = 1 from rfl, Nat.mul_one, Nat.add_zero] using h0
          obtain ⟨Av, cv, ev⟩ := Kd.R_slice hR
          subst ev
          have HR := Aside0.mk hR
          have HH := Aside0.mk (Kd.H_widen hH)
          have hok := Aside0.mk hoki
          clear hcl hcc hR hH hoki gb5 gl5 cl5 HG5
          have p5 : (0 ≤ x5_1) = True := eq_true c4
          have q5 : (x5_1 < (x0_1.length : Int)) = True := eq_true c3
          clear c3 c4
          go_wp2_with (first | (go_at_call 36; (with_reducible refine (laws_markIntS.calls k1 oki _ row x1_1 t1 t2 w0 _ ?side1 ?side2 A7.out).mono ?_); (case side1 => first | exact HB.out | exact pw_below_drewN HB.out _); (case side2 => first | exact HR.out | exact Kd.R_drewN HR.out _); rintro e w2 ⟨rfl, hy, hb, hkp⟩; have HY := Aside0.mk hy; have HKP := Aside0.mk hkp; have HB2 := Aside0.mk hb; clear hy hb hkp))
          go_roundg k1
          case measure => have := HK1.out; omega
          case rel =>
            refine ⟨x0_1.set x5_1.toNat t2, t1, (wrap64 (x5_1 + 1)), sm_, sm_, H', ⟨by have := HK1.out; omega⟩, ⟨?_⟩, ⟨?_⟩, HB2⟩
            · refine Kd.H_back (Kd.H_step HH.out (fun k_ _ hn hlt => HKP.out.2 k_ hlt (fun ho => hn (.inl ho)))) (Kd.M_row (Kd.R_reok (ok := oki) rfl HY.out (fun k_ e_ => HR.out.1 k_ e_))) (fun k_ hk => .inl hk)
            · exact HK.out.then_ HKP.out (fun k_ hk => .inl ⟨(hok.out k_ hk).1, fun e_ => (hok.out k_ hk).2 (by simpa [Value.ownBlock] using e_)⟩)
        · rw [if_neg c4] at H
          exact absurd H (by simp)
      · rw [if_neg c3] at H
        have c3b0 : decide (x5_1 < (x0_1.length : Int)) = false := decide_eq_false c3
        clear c3
        simp only [Option.some.injEq, Prod.mk.injEq] at H
        obtain ⟨rfl, rfl⟩ := H
        obtain ⟨Ao9, co9, eo9⟩ := Kd.S_slice HO_0.out
        subst eo9
        go_wp2
        go_ret
        exact ⟨er_, HO_0.out, HB.out, HK.out⟩

/-! ### laws_markGraph: function 21 -/
def laws_markGraph.f (k : Nat) (a0_0 : Int) (l0_1 : List (List Int)) (a1 : Int) : Option (Int × List (List Int)) := (laws_markIntSS.f k l0_1 a1).bind fun t => some (t.1, t.2)
theorem laws_markGraph.mono : ∀ a0 a1 a2 k, LeO (laws_markGraph.f k a0 a1 a2) (laws_markGraph.f (k + 1) a0 a1 a2) := by
  intro a0 a1 a2 k
  unfold laws_markGraph.f
  exact Zi (laws_markIntSS.mono _ _ _) (fun _ => Zv _)
set_option maxHeartbeats 8000000 in
set_option maxRecDepth 100000 in
theorem laws_markGraph.calls (k : Nat) (a0_0 : Int) (P0w_ : World → Nat → Prop) (u9000_ : Value) (l0_1 : List (List Int)) (a1 : Int) (r1 : Int) (r2 : List (List Int)) (w0 w : World) (hB : Below w0.heap.size w0 w) (ho0_1 : Kd.S (Kd.slice 3 (Kd.int .i64)) 38 w w0.heap.size (P0w_ w) u9000_ l0_1) (h : laws_markGraph.f k a0_0 l0_1 a1 = some (r1, r2)) :
    Calls Try.prog 21 #[.agg #[.int .i64 a0_0, u9000_], .int .i64 a1] w fun e w' => e = .returned (.int .i64 r1) ∧ Kd.S (Kd.slice 3 (Kd.int .i64)) 38 w' w0.heap.size (P0w_ w) u9000_ r2 ∧ Below w0.heap.size w0 w' ∧ Kept w w' (fun k_ => P0w_ w k_ ∧ some k_ ≠ (u9000_ : Value).ownBlock) := by
  generalize P0w_ w = P0_1_ at ho0_1 ⊢
  have hu27 := Try.underlying27
  obtain ⟨⟨t1, t2⟩, A30, H⟩ := Option.bind_eq_some_iff.mp (show (laws_markIntSS.f k l0_1 a1).bind (fun t => some (t.1, t.2)) = some (r1, r2) from h)
  have H2 : t1 = r1 ∧ t2 = r2 := by simpa using H
  obtain ⟨rfl, rfl⟩ := H2
  have A3 := Aside0.mk A30
  obtain ⟨Ao, co, eo⟩ := Kd.S_slice ho0_1
  subst eo
  have HO := Aside0.mk ho0_1
  have HB := Aside0.mk hB
  have HK := Aside0.mk (Kept.refl w (fun k_ => P0_1_ k_ ∧ some k_ ≠ (.slice Ao l0_1.length co : Value).ownBlock))
  clear A30 H h hB ho0_1
  go_enter Try.func21, Try.ntmps21
  go_wp2_with (first | ((with_reducible refine Zy (N := 2) rfl ?_); refine Zz ?hg (N := 2) ?hd (cs := #[.int .i64 a0_0, .slice Ao l0_1.length co]) (t := 27) ?hr ?_; (case hd => rfl); (case hg => rfl); (case hr => first | (go_simp; done) | (go_simp; rfl)); intro gb hg w7 hbox hb; have n0_ := Aside0.mk (Zf HB.out hb); have n1_ := Aside0.mk (hbox); have n2_ := Aside0.mk (Kd.S_below HO.out hb); have n3_ := Aside0.mk (HK.out.below hb); clear HB HO HK; have HB := n0_; have BK := n1_; have HO := n2_; have HK := n3_; clear n0_ n1_ n2_ n3_; clear hb hbox hg; have hcz_0 : w7.cell? ⟨gb, 0, none⟩ = some (.int .i64 a0_0) := (Ze BK.out 0).trans rfl; have hcz_1 : w7.cell? ⟨gb, 1, none⟩ = some (.slice Ao l0_1.length co) := (Ze BK.out 1).trans rfl; have hfz_0 := Zd BK.out 0; have hfz_1 := Zd BK.out 1) | (go_at_call 22; (with_reducible refine (laws_markIntSS.calls k (fun _ => P0_1_) _ l0_1 a1 t1 t2 w0 _ ?side1 ?side2 A3.out).mono ?_); (case side1 => first | exact HB.out | exact pw_below_drewN HB.out _); (case side2 => first | exact HO.out | exact Kd.S_drewN HO.out _); rintro e w2 ⟨rfl, hy, hb, hkp⟩; have HY := Aside0.mk hy; have HKP := Aside0.mk hkp; have HB2 := Aside0.mk hb; clear hy hb hkp))
  go_ret
  exact ⟨er_, HY.out, HB2.out, HK.out.then_ HKP.out (fun k_ hk => .inl hk)⟩

/-! ### laws_heldIntS: function 37 -/
def laws_heldIntS.l0 : Nat → List Int → Int → Int → Option (Int)
 | 0, _, _, _ => none
 | k + 1, x0, x1, x5 => if x5 < (x0.length : Int) then (if 0 ≤ x5 then (if (rd x0 x5) = x1 then (laws_heldIntS.l0 k x0 (wrap64 (x1 + 1)) (wrap64 (x5 + 1))) else (some (-1))) else (none)) else (some x1)
def laws_heldIntS.f (k : Nat) (l0 : List Int) (a1 : Int) : Option (Int) := laws_heldIntS.l0 k l0 a1 0
theorem laws_heldIntS.mono_l : ∀ k, (∀ y0 y1 y2, LeO (laws_heldIntS.l0 k y0 y1 y2) (laws_heldIntS.l0 (k + 1) y0 y1 y2))
 | 0 => fun _ _ _ r h => by simp [laws_heldIntS.l0] at h
 | k + 1 => by
  have ih0 := laws_heldIntS.mono_l k
  ·intro y0 y1 y2
   unfold laws_heldIntS.l0
   repeat' first
   | (with_reducible exact ih0 _ _ _)
   | (with_reducible exact Zv _)
   | (with_reducible exact Zh _)
   | (with_reducible refine Zn ?_ ?_)
   | (with_reducible refine Zi ?_ (fun _ => ?_))
   | exact ih0 _ _ _
   | exact Zh _
   | refine Zn ?_ ?_
   | refine Zi ?_ (fun _ => ?_)
theorem laws_heldIntS.mono : ∀ a0 a1 k, LeO (laws_heldIntS.f k a0 a1) (laws_heldIntS.f (k + 1) a0 a1) := by
 intro a0 a1 k
 have ih0 := laws_heldIntS.mono_l k
 unfold laws_heldIntS.f
 repeat' first
   | (with_reducible exact ih0 _ _ _)
   | (with_reducible exact Zv _)
   | (with_reducible exact Zh _)
   | (with_reducible refine Zn ?_ ?_)
   | (with_reducible refine Zi ?_ (fun _ => ?_))
   | exact ih0 _ _ _
   | exact Zh _
   | refine Zn ?_ ?_
   | refine Zi ?_ (fun _ => ?_)
set_option maxHeartbeats 8000000 in
set_option maxRecDepth 100000 in
theorem laws_heldIntS.calls (k : Nat) (A0 : Option Addr) (c0 : Nat) (l0 : List Int) (a1 : Int) (r : Int) (w : World) (hr0 : Kd.C (Kd.int .i64) w A0 l0.length l0) (hc0 : l0.length ≤ c0) (h : laws_heldIntS.f k l0 a1 = some r) :
  Calls Try.prog 37 #[.slice A0 l0.length c0, .int .i64 a1] w fun e w' => e = .returned (.int .i64 r) ∧ Drawn0 w w' := by
 have HR0 := Aside0.mk hr0
 have HC0 := Aside0.mk hc0
 clear hr0 hc0
 have H : (laws_heldIntS.l0 k l0 a1 0) = some r := h
 clear h
 have H' := Aside0.mk H
 clear H
 go_enter Try.func37, Try.ntmps37
 go_wp2
 go_loopg [1, 5] k (fun kq v1 v5 w' => ∃ (x1_1 : Int) (x5_1 : Int), v1 = .int .i64 x1_1 ∧ v5 = .int .i64 x5_1 ∧ Aside0 (laws_heldIntS.l0 kq l0 x1_1 x5_1 = some r) ∧ Aside0 (kq ≤ k) ∧ Drawn0 w w')
 case atStart => exact ⟨(a1), (0), sm_, sm_, H', ⟨Nat.le_refl _⟩, dr_⟩
 case round =>
  clear H'
  try clear p2
  obtain ⟨x1_1, x5_1, rfl, rfl, HA, HK1, ⟨m1, rfl⟩⟩ := hrel
  cases gk with
  | zero => exact absurd HA.out (by simp [laws_heldIntS.l0])
  | succ k1 =>
   have H := HA.out
   clear HA
   simp only [laws_heldIntS.l0] at H
   by_cases c3 : x5_1 < (l0.length : Int)
   ·rw [if_pos c3] at H
    have c3b0 : decide (x5_1 < (l0.length : Int)) = true := decide_eq_true c3
    clear c3
    by_cases c4 : 0 ≤ x5_1
    ·rw [if_pos c4] at H
     have c4b0 : decide (0 ≤ x5_1) = true := decide_eq_true c4
     clear c4
     by_cases c5 : (rd l0 x5_1) = x1_1
     ·rw [if_pos c5] at H
      have c5b0 : ((rd l0 x5_1) == x1_1) = true := beq_iff_eq.mpr c5
      have c5b1 : ((rd l0 x5_1) != x1_1) = false := bne_eq_false_iff_eq.mpr c5
      clear c5
      have H' := Aside0.mk H
      clear H
      have p414 : 0 ≤ (x5_1 : Int) := of_decide_eq_true as_
      have q414 : x5_1 < (l0.length : Int) := of_decide_eq_true as_
      obtain ⟨ad414, e414, hx414_0⟩ := Zo HR0.out x5_1 p414 q414
      cases e414
      replace p414 := eq_true p414
      replace q414 := eq_true q414
      go_wp2
      go_roundg k1
      case measure => have := HK1.out; omega
      case rel => exact ⟨(wrap64 (x1_1 + 1)), (wrap64 (x5_1 + 1)), sm_, sm_, H', ⟨by have := HK1.out; omega⟩, dr_⟩
     ·rw [if_neg c5] at H
      have c5b0 : ((rd l0 x5_1) == x1_1) = false := beq_eq_false_iff_ne.mpr c5
      have c5b1 : ((rd l0 x5_1) != x1_1) = true := bne_iff_ne.mpr c5
      obtain rfl := Option.some.inj H
      have p414 : 0 ≤ (x5_1 : Int) := of_decide_eq_true as_
      have q414 : x5_1 < (l0.length : Int) := of_decide_eq_true as_
      obtain ⟨ad414, e414, hx414_0⟩ := Zo HR0.out x5_1 p414 q414
      cases e414
      replace p414 := eq_true p414
      replace q414 := eq_true q414
      go_wp2
      go_ret
      exact ⟨sm_, dr_⟩
    ·rw [if_neg c4] at H
     exact absurd H (by simp)
   ·rw [if_neg c3] at H
    have c3b0 : decide (x5_1 < (l0.length : Int)) = false := decide_eq_false c3
    clear c3
    obtain rfl := Option.some.inj H
    go_wp2
    go_ret
    exact ⟨sm_, dr_⟩

end Go.Proofs.Ytkmhkkhlbnhaaaa.PFnExactPreferred
