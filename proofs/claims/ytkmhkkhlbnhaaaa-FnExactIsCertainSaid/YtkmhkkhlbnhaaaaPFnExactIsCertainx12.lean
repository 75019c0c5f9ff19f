-- Written by a program of this session (hooks of mine on the print): Lean checks it.
import Derived.Test.YtkmhkkhlbnhaaaaPFnExactIsCertainx0
import Derived.Test.YtkmhkkhlbnhaaaaPFnExactIsCertainx9
import Derived.Test.YtkmhkkhlbnhaaaaPFnExactIsCertainx11
namespace Go.Proofs.Ytkmhkkhlbnhaaaa.PFnExactIsCertain
open Go.RowKit Go.Proofs.YtkmhkkhlbnhaaaaW.PrintWords Go.Proofs.YtkmhkkhlbnhaaaaW.PrintLast Go.Proofs.YtkmhkkhlbnhaaaaW.PrintMore
attribute [local go_sem] max2_int min2_int max_two min_two max_three min_three max_four min_four   -- for this text's walks alone
set_option linter.unusedVariables false
set_option linter.unusedSimpArgs false

/-! ### impl_isWithin: function 56 -/
def impl_isWithin.l0 : Nat → List Int → List Int → Int → Int → Option (Bool)
 | 0, _, _, _, _ => none
 | k + 1, x1, x7, x8, x9 => if x9 < x8 then (if 0 ≤ x9 then (if x9 < (x7.length : Int) then ((slices_Contains_int_int.f k x1 (rd x7 x9)).bind fun t425 => (if t425 = true then (impl_isWithin.l0 k x1 x7 x8 (wrap64 (x9 + 1))) else (some false))) else (none)) else (none)) else (some true)
def impl_isWithin.f (k : Nat) (l0 : List Int) (l1 : List Int) : Option (Bool) := impl_isWithin.l0 k l1 l0 (l0.length : Int) 0
theorem impl_isWithin.mono_l : ∀ k, (∀ y0 y1 y2 y3, LeO (impl_isWithin.l0 k y0 y1 y2 y3) (impl_isWithin.l0 (k + 1) y0 y1 y2 y3))
 | 0 => fun _ _ _ _ r h => by simp [impl_isWithin.l0] at h
 | k + 1 => by
  have ih0 := impl_isWithin.mono_l k
  ·intro y0 y1 y2 y3
   unfold impl_isWithin.l0
   repeat' first
   | (with_reducible exact ih0 _ _ _ _)
   | (with_reducible exact slices_Contains_int_int.mono _ _ _)
   | (with_reducible exact Zs _)
   | (with_reducible exact Zg _)
   | (with_reducible refine Zn ?_ ?_)
   | (with_reducible refine Zh ?_ (fun _ => ?_))
   | exact ih0 _ _ _ _
   | exact slices_Contains_int_int.mono _ _ _
   | exact Zg _
   | refine Zn ?_ ?_
   | refine Zh ?_ (fun _ => ?_)
theorem impl_isWithin.mono : ∀ a0 a1 k, LeO (impl_isWithin.f k a0 a1) (impl_isWithin.f (k + 1) a0 a1) := by
 intro a0 a1 k
 have ih0 := impl_isWithin.mono_l k
 unfold impl_isWithin.f
 repeat' first
   | (with_reducible exact ih0 _ _ _ _)
   | (with_reducible exact slices_Contains_int_int.mono _ _ _)
   | (with_reducible exact Zs _)
   | (with_reducible exact Zg _)
   | (with_reducible refine Zn ?_ ?_)
   | (with_reducible refine Zh ?_ (fun _ => ?_))
   | exact ih0 _ _ _ _
   | exact slices_Contains_int_int.mono _ _ _
   | exact Zg _
   | refine Zn ?_ ?_
   | refine Zh ?_ (fun _ => ?_)
set_option maxHeartbeats 8000000 in
set_option maxRecDepth 100000 in
theorem impl_isWithin.calls (k : Nat) (A0 : Option Addr) (c0 : Nat) (l0 : List Int) (A1 : Option Addr) (c1 : Nat) (l1 : List Int) (r : Bool) (w : World) (hr0 : Kd.C (Kd.int .i64) w A0 l0.length l0) (hc0 : l0.length ≤ c0) (hr1 : Kd.C (Kd.int .i64) w A1 l1.length l1) (hc1 : l1.length ≤ c1) (h : impl_isWithin.f k l0 l1 = some r) :
  Calls Try.prog 56 #[.slice A0 l0.length c0, .slice A1 l1.length c1] w fun e w' => e = .returned (.bool r) ∧ Drawn0 w w' := by
 have HR0 := Aside0.mk hr0
 have HC0 := Aside0.mk hc0
 clear hr0 hc0
 have HR1 := Aside0.mk hr1
 have HC1 := Aside0.mk hc1
 clear hr1 hc1
 have H : (impl_isWithin.l0 k l1 l0 (l0.length : Int) 0) = some r := h
 clear h
 have H' := Aside0.mk H
 clear H
 go_enter Try.func56, Try.ntmps56
 go_wp2
 go_loopg [9] k (fun kq v9 w' => ∃ (x9_1 : Int), v9 = .int .i64 x9_1 ∧ Aside0 (impl_isWithin.l0 kq l1 l0 (l0.length : Int) x9_1 = some r) ∧ Aside0 (kq ≤ k) ∧ Drawn0 w w')
 case atStart => exact ⟨(0), sm_, H', ⟨Nat.le_refl _⟩, dr_⟩
 case round =>
  clear H'
  try clear c1
  try clear p2
  obtain ⟨x9_1, rfl, HA, HK1, ⟨m1, rfl⟩⟩ := hrel
  cases gk with
  | zero => exact absurd HA.out (by simp [impl_isWithin.l0])
  | succ k1 =>
   have H := HA.out
   clear HA
   simp only [impl_isWithin.l0] at H
   by_cases c3 : x9_1 < (l0.length : Int)
   ·rw [if_pos c3] at H
    have c3b0 : decide (x9_1 < (l0.length : Int)) = true := decide_eq_true c3
    clear c3
    by_cases c4 : 0 ≤ x9_1
    ·rw [if_pos c4] at H
     have c4b0 : decide (0 ≤ x9_1) = true := decide_eq_true c4
     clear c4
     by_cases c5 : x9_1 < (l0.length : Int)
     ·rw [if_pos c5] at H
      have c5b0 : decide (x9_1 < (l0.length : Int)) = true := decide_eq_true c5
      clear c5
      replace H := Option.bind_eq_some_iff.mp H
      obtain ⟨t425, A60, H⟩ := H
      replace H : (if t425 = true then (impl_isWithin.l0 k1 l1 l0 (l0.length : Int) (wrap64 (x9_1 + 1))) else (some false)) = some r := H
      have A6 := Aside0.mk A60
      clear A60
      by_cases c7 : t425 = true
      ·subst c7
       have H1 : (impl_isWithin.l0 k1 l1 l0 (l0.length : Int) (wrap64 (x9_1 + 1))) = some r := by rw [if_pos rfl] at H; exact H
       clear H
       have H := H1
       clear H1
       have H' := Aside0.mk H
       clear H
       have p424 : 0 ≤ (x9_1 : Int) := of_decide_eq_true as_
       have q424 : x9_1 < (l0.length : Int) := of_decide_eq_true as_
       obtain ⟨ad424, e424, hx424_0⟩ := Zo HR0.out x9_1 p424 q424
       cases e424
       replace p424 := eq_true p424
       replace q424 := eq_true q424
       go_wp2_with (first | ((with_reducible refine Zl (f := 49) rfl ?_); refine Zx (some 15) rfl rfl Try.func49 (by kernel_rfl) rfl #[.slice A1 l1.length c1, .int .i64 (rd l0 x9_1)] rfl ar_ ?_; (with_reducible refine (slices_Contains_int_int.calls k1 _ _ l1 (rd l0 x9_1) true _ ?side1 ?side2 A6.out).mono ?_); (case side1 => repeat (first | exact HR1.out | (with_reducible refine Zv ?_ _) | (with_reducible refine Zt ?_ _) | (with_reducible refine Zy ?_))); (case side2 => exact HC1.out); rintro e w' ⟨rfl, ⟨nd, rfl⟩⟩; refine ⟨_, rfl, ?_⟩))
       go_roundg k1
       case measure => have := HK1.out; omega
       case rel => exact ⟨(wrap64 (x9_1 + 1)), sm_, H', ⟨by have := HK1.out; omega⟩, dr_⟩
      ·replace c7 := Bool.eq_false_iff.mpr c7
       subst c7
       have H1 : (some false) = some r := by rw [if_neg (show ¬ (false = true) by decide)] at H; exact H
       clear H
       have H := H1
       clear H1
       obtain rfl := Option.some.inj H
       have p424 : 0 ≤ (x9_1 : Int) := of_decide_eq_true as_
       have q424 : x9_1 < (l0.length : Int) := of_decide_eq_true as_
       obtain ⟨ad424, e424, hx424_0⟩ := Zo HR0.out x9_1 p424 q424
       cases e424
       replace p424 := eq_true p424
       replace q424 := eq_true q424
       go_wp2_with (first | ((with_reducible refine Zl (f := 49) rfl ?_); refine Zx (some 15) rfl rfl Try.func49 (by kernel_rfl) rfl #[.slice A1 l1.length c1, .int .i64 (rd l0 x9_1)] rfl ar_ ?_; (with_reducible refine (slices_Contains_int_int.calls k1 _ _ l1 (rd l0 x9_1) false _ ?side1 ?side2 A6.out).mono ?_); (case side1 => repeat (first | exact HR1.out | (with_reducible refine Zv ?_ _) | (with_reducible refine Zt ?_ _) | (with_reducible refine Zy ?_))); (case side2 => exact HC1.out); rintro e w' ⟨rfl, ⟨nd, rfl⟩⟩; refine ⟨_, rfl, ?_⟩))
       go_ret
       exact ⟨sm_, dr_⟩
     ·rw [if_neg c5] at H
      exact absurd H (by simp)
    ·rw [if_neg c4] at H
     exact absurd H (by simp)
   ·rw [if_neg c3] at H
    have c3b0 : decide (x9_1 < (l0.length : Int)) = false := decide_eq_false c3
    clear c3
    obtain rfl := Option.some.inj H
    go_wp2
    go_ret
    exact ⟨sm_, dr_⟩

/-! ### impl_Preferred: function 19 -/
/-- Whether some row is longer than the one in hand and holds all of it. -/
def prefAny.l0 : Nat → List (List Int) → List Int → Int → Option Int
  | 0, _, _, _ => none
  | k + 1, x0, x1, x8 => if x8 < (x0.length : Int) then (if 0 ≤ x8 then (if ((rd_L1 x0 x8).length : Int) > (x1.length : Int) then ((impl_isWithin.f k x1 (rd_L1 x0 x8)).bind fun t => (if t = true then (some x8) else (prefAny.l0 k x0 x1 (wrap64 (x8 + 1))))) else (prefAny.l0 k x0 x1 (wrap64 (x8 + 1)))) else (none)) else (some (-1))
theorem prefAny.mono_l : ∀ k, (∀ y0 y1 y2, LeO (prefAny.l0 k y0 y1 y2) (prefAny.l0 (k + 1) y0 y1 y2))
  | 0 => fun _ _ _ => by (unfold prefAny.l0; exact Zg _)
  | k + 1 => by
    have ih0 := prefAny.mono_l k
    · intro y0 y1 y2
      unfold prefAny.l0
      repeat' first
      | (with_reducible exact ih0 _ _ _)
      | (with_reducible exact impl_isWithin.mono _ _ _)
      | (with_reducible exact Zs _)
      | (with_reducible exact Zg _)
      | (with_reducible refine Zn ?_ ?_)
      | (with_reducible refine Zh ?_ (fun _ => ?_))
      | exact ih0 _ _ _
      | exact Zg _
      | refine Zn ?_ ?_
      | refine Zh ?_ (fun _ => ?_)
def impl_Preferred.l0 : Nat → List (List Int) → List (List Int) → Int → Option (List (List Int))
  | 0, _, _, _ => none
  | k + 1, x4, x3, x12 => if x12 < (x3.length : Int) then (if 0 ≤ x12 then ((prefAny.l0 k x3 (rd_L1 x3 x12) 0).bind fun t => (if 0 ≤ t then (impl_Preferred.l0 k x4 x3 (wrap64 (x12 + 1))) else (if x4.length < 5864062014805 then (impl_Preferred.l0 k (x4 ++ [rd_L1 x3 x12]) x3 (wrap64 (x12 + 1))) else (none)))) else (none)) else (some x4)
def impl_Preferred.f (k : Nat) (a0_0 : Int) (l0_1 : List (List Int)) : Option (List (List Int)) := (impl_AllComplete.f k a0_0 l0_1).bind fun t => impl_Preferred.l0 k ([] : List (List Int)) t 0
theorem impl_Preferred.mono_l : ∀ k, (∀ y0 y1 y2, LeO (impl_Preferred.l0 k y0 y1 y2) (impl_Preferred.l0 (k + 1) y0 y1 y2))
  | 0 => fun _ _ _ => by (unfold impl_Preferred.l0; exact Zg _)
  | k + 1 => by
    have ih0 := impl_Preferred.mono_l k
    · intro y0 y1 y2
      unfold impl_Preferred.l0
      repeat' first
      | (with_reducible exact ih0 _ _ _)
      | (with_reducible exact prefAny.mono_l _ _ _ _)
      | (with_reducible exact Zs _)
      | (with_reducible exact Zg _)
      | (with_reducible refine Zn ?_ ?_)
      | (with_reducible refine Zh ?_ (fun _ => ?_))
      | exact ih0 _ _ _
      | exact Zg _
      | refine Zn ?_ ?_
      | refine Zh ?_ (fun _ => ?_)
theorem impl_Preferred.mono : ∀ a0 a1 k, LeO (impl_Preferred.f k a0 a1) (impl_Preferred.f (k + 1) a0 a1) := by
  intro a0 a1 k
  unfold impl_Preferred.f
  exact Zh (impl_AllComplete.mono _ _ _) (fun _ => impl_Preferred.mono_l _ _ _ _)
set_option maxHeartbeats 8000000 in
set_option maxRecDepth 100000 in
/-- The function value at a row that is longer than the boxed one. -/
theorem prefAny.long (k : Nat) (A0 : Option Addr) (c0 : Nat) (l0 : List Int) (A1 : Option Addr) (c1 : Nat) (l1 : List Int) (B : Nat) (r : Bool) (w : World) (hr0 : Kd.C (Kd.int .i64) w A0 l0.length l0) (hc0 : l0.length ≤ c0) (hr1 : Kd.C (Kd.int .i64) w A1 l1.length l1) (hc1 : l1.length ≤ c1) (hcell : w.cell? ⟨B, 0, none⟩ = some (.slice A1 l1.length c1)) (hgt : (l0.length : Int) > (l1.length : Int)) (h : impl_isWithin.f k l1 l0 = some r) :
    Calls Try.prog 55 #[.slice A0 l0.length c0, .pointer (some ⟨B, 0, none⟩)] w fun e w' => e = .returned (.bool r) ∧ Drawn0 w w' := by
  have hcon := fun W (h1 : Kd.C (Kd.int .i64) W A1 l1.length l1) (h0 : Kd.C (Kd.int .i64) W A0 l0.length l0) => impl_isWithin.calls k A1 c1 l1 A0 c0 l0 r W h1 hc1 h0 hc0 h
  have hgtn : l1.length < l0.length := by omega
  have hgtb := decide_eq_true hgt
  have hgtb2 := decide_eq_true hgtn
  have hgt2 := eq_true hgt
  replace hgtn := eq_true hgtn
  clear hgt
  go_enter Try.func55, Try.ntmps55
  go_wp2_with (go_at_call 56; refine (hcon _ (by first | exact hr1 | exact Zy hr1 | exact Zt hr1 _) (by first | exact hr0 | exact Zy hr0 | exact Zt hr0 _)).mono ?_; rintro e w' ⟨rfl, ⟨nd, rfl⟩⟩)
  go_ret
  exact ⟨rfl, dr_⟩
set_option maxHeartbeats 8000000 in
set_option maxRecDepth 100000 in
theorem prefAny.short (A0 : Option Addr) (c0 : Nat) (l0 : List Int) (A1 : Option Addr) (c1 : Nat) (l1 : List Int) (B : Nat) (w : World) (hcell : w.cell? ⟨B, 0, none⟩ = some (.slice A1 l1.length c1)) (hgt : ¬ (l0.length : Int) > (l1.length : Int)) :
    Calls Try.prog 55 #[.slice A0 l0.length c0, .pointer (some ⟨B, 0, none⟩)] w fun e w' => e = .returned (.bool false) ∧ Drawn0 w w' := by
  have hgtn : ¬ l1.length < l0.length := by omega
  have hgtb := decide_eq_false hgt
  have hgtb2 := decide_eq_false hgtn
  have hgt2 := eq_false hgt
  replace hgtn := eq_false hgtn
  clear hgt
  go_enter Try.func55, Try.ntmps55
  go_wp2
  go_ret
  exact ⟨rfl, dr_⟩
set_option maxHeartbeats 8000000 in
set_option maxRecDepth 100000 in
theorem prefAny.finds (k : Nat) (A0 : Option Addr) (c0 : Nat) (l0 : List (List Int)) (A1 : Option Addr) (c1 : Nat) (l1 : List Int) (B : Nat) (r : Int) (w : World) (hr0 : Kd.C (Kd.slice 3 (Kd.int .i64)) w A0 l0.length l0) (hc0 : l0.length ≤ c0) (hr1 : Kd.C (Kd.int .i64) w A1 l1.length l1) (hc1 : l1.length ≤ c1) (hB : B < w.heap.size) (hcell : w.cell? ⟨B, 0, none⟩ = some (.slice A1 l1.length c1)) (h : prefAny.l0 k l0 l1 0 = some r) :
    Calls Try.prog 82 #[.slice A0 l0.length c0, .func (.func 55) #[] #[.pointer (some ⟨B, 0, none⟩)]] w fun e w' => e = .returned (.int .i64 r) ∧ Drawn0 w w' := by
  have eg : ∀ args w, (callFunc 55 args).run Try.prog w = .ok (.enter 55 args) w := enters_of Try.func55 (by kernel_rfl) rfl
  have H' := Aside0.mk h
  have HR0 := Aside0.mk hr0
  have HR1 := Aside0.mk hr1
  have HCELL := Aside0.mk hcell
  have HBB := Aside0.mk hB
  clear h hr0 hr1 hcell hB
  go_enter Try.func82, Try.ntmps82
  go_wp2
  go_loopg [5, 8] k (fun kq _ v8 w' => ∃ (x8_1 : Int), v8 = .int .i64 x8_1 ∧ Aside0 (prefAny.l0 kq l0 l1 x8_1 = some r) ∧ Aside0 (kq ≤ k) ∧ Drawn0 w w')
  case atStart => exact ⟨0, rfl, H', ⟨Nat.le_refl _⟩, dr_⟩
  case round =>
    clear H'
    obtain ⟨x8_1, rfl, HA, HK1, ⟨m1, rfl⟩⟩ := hrel
    cases gk with
    | zero => exact absurd HA.out (by simp [prefAny.l0])
    | succ k1 =>
      have H := HA.out
      clear HA
      simp only [prefAny.l0] at H
      by_cases c3 : x8_1 < (l0.length : Int)
      · rw [if_pos c3] at H
        have c3b0 : decide (x8_1 < (l0.length : Int)) = true := decide_eq_true c3
        by_cases c4 : 0 ≤ x8_1
        · rw [if_pos c4] at H
          have c4b0 : decide (0 ≤ x8_1) = true := decide_eq_true c4
          have p101 : 0 ≤ (x8_1 : Int) := c4
          have q101 : x8_1 < (l0.length : Int) := c3
          clear c3 c4
          obtain ⟨ad101, A101_0, c101_0, e101, hx101_0, hl101_0, hi101_0⟩ := at_L1 HR0.out x8_1 p101 q101
          cases e101
          obtain ⟨t102, hcall, H⟩ : ∃ t102 : Bool, (Calls Try.prog 55 (#[.slice A101_0 (rd_L1 l0 x8_1).length c101_0] ++ #[.pointer (some ⟨B, 0, none⟩)]) (w.drewN m1) fun e w' => e = .returned (.bool t102) ∧ Drawn0 (w.drewN m1) w') ∧ (if t102 = true then (some x8_1) else (prefAny.l0 k1 l0 l1 (wrap64 (x8_1 + 1)))) = some r := by
            have hce := (((pw_below_drewN (Below.refl w.heap.size w) m1).cell (p := ⟨B, 0, none⟩) HBB.out).trans HCELL.out)
            by_cases c5 : ((rd_L1 l0 x8_1).length : Int) > (l1.length : Int)
            · rw [if_pos c5] at H
              obtain ⟨t, hw, H⟩ := Option.bind_eq_some_iff.mp H
              exact ⟨t, prefAny.long k1 A101_0 c101_0 (rd_L1 l0 x8_1) A1 c1 l1 B t (w.drewN m1) (Zt hi101_0 _) hl101_0 (Zt HR1.out _) hc1 hce c5 hw, H⟩
            · rw [if_neg c5] at H
              exact ⟨false, prefAny.short A101_0 c101_0 (rd_L1 l0 x8_1) A1 c1 l1 B (w.drewN m1) hce c5, by rw [if_neg (by decide)]; exact H⟩
          clear hi101_0 hl101_0
          replace p101 := eq_true p101
          replace q101 := eq_true q101
          cases t102 with
          | true =>
            rw [if_pos rfl] at H
            obtain rfl := Option.some.inj H
            go_wp2_with (go_at_call 55; refine hcall.mono ?_; rintro e w' ⟨rfl, ⟨nd, rfl⟩⟩)
            go_ret
            exact ⟨rfl, dr_⟩
          | false =>
            rw [if_neg (by decide)] at H
            have H' := Aside0.mk H
            clear H
            go_wp2_with (go_at_call 55; refine hcall.mono ?_; rintro e w' ⟨rfl, ⟨nd, rfl⟩⟩)
            go_roundg k1
            case measure => have := HK1.out; omega
            case rel => exact ⟨(wrap64 (x8_1 + 1)), sm_, H', ⟨by have := HK1.out; omega⟩, dr_⟩
        · rw [if_neg c4] at H
          exact absurd H (by simp)
      · rw [if_neg c3] at H
        have c3b0 : decide (x8_1 < (l0.length : Int)) = false := decide_eq_false c3
        clear c3
        obtain rfl := Option.some.inj H
        go_wp2
        go_ret
        exact ⟨rfl, dr_⟩
set_option maxHeartbeats 8000000 in
set_option maxRecDepth 100000 in
theorem prefAny.calls (k : Nat) (A0 : Option Addr) (c0 : Nat) (l0 : List (List Int)) (A1 : Option Addr) (c1 : Nat) (l1 : List Int) (B : Nat) (r : Int) (w : World) (hr0 : Kd.C (Kd.slice 3 (Kd.int .i64)) w A0 l0.length l0) (hc0 : l0.length ≤ c0) (hr1 : Kd.C (Kd.int .i64) w A1 l1.length l1) (hc1 : l1.length ≤ c1) (hB : B < w.heap.size) (hcell : w.cell? ⟨B, 0, none⟩ = some (.slice A1 l1.length c1)) (h : prefAny.l0 k l0 l1 0 = some r) :
    Calls Try.prog 54 #[.slice A0 l0.length c0, .func (.func 55) #[] #[.pointer (some ⟨B, 0, none⟩)]] w fun e w' => e = .returned (.bool (decide (0 ≤ r))) ∧ Drawn0 w w' := by
  have hcon := fun m => prefAny.finds k A0 c0 l0 A1 c1 l1 B r (w.drewN m) (Zt hr0 _) hc0 (Zt hr1 _) hc1 (by simpa [World.drewN] using hB) (((pw_below_drewN (Below.refl w.heap.size w) m).cell (p := ⟨B, 0, none⟩) hB).trans hcell) h
  have hcon0 := prefAny.finds k A0 c0 l0 A1 c1 l1 B r w hr0 hc0 hr1 hc1 hB hcell h
  clear hr0 hr1 h hcell
  have hge : decide (r ≥ 0) = decide (0 ≤ r) := rfl
  go_enter Try.func54, Try.ntmps54
  go_wp2_with (go_at_call 82; first | (refine hcon0.mono ?_; rintro e w' ⟨rfl, ⟨nd, rfl⟩⟩) | (refine (hcon _).mono ?_; rintro e w' ⟨rfl, ⟨nd, rfl⟩⟩))
  go_ret
  exact ⟨by first | rfl | (simp; done), dr_⟩
section
variable {E lo hi base : Nat} {w2 w' W W' : World} {V v : Value} {t : List (List Int)} {f : Nat → Nat} {xs : List (List Value)} {ok : Nat → Prop}
theorem raw_keep (h : (Kd.raw 1).R E W base ok v xs) (hk : ∀ k, v.ownBlock = some k → W'.heap[k]? = W.heap[k]?) : (Kd.raw 1).R E W' base ok v xs := by
  obtain ⟨h0, inner, ho, hr⟩ := h
  exact ⟨h0, inner, own_move ho hk, hr⟩
theorem seg_one {β : Type} (l : List β) (j : Nat) (z : β) (h : l[j]? = some z) : (l.drop (j * 1)).take 1 = [z] := by
  obtain ⟨hj, e⟩ := List.getElem?_eq_some_iff.1 h
  rw [Nat.mul_one, List.drop_eq_getElem_cons hj, e, List.take_succ_cons, List.take_zero]
/-- Rows picked out of a row whose rows lie apart, each once, lie apart. -/
theorem S_pick (hd : Nat → Value) (J : List Nat) (hM : ∀ j, j ∈ J → (Kd.slice 3 (Kd.int .i64)).M w2 lo (fun k => (lo ≤ k ∧ k < hi) ∧ f k = j) (t.getD j []) [hd j]) (hfr : ∀ k, lo ≤ k → k < hi → w'.heap[k]? = w2.heap[k]?) (hb : base ≤ lo) (hJn : J.Nodup) (hR : (Kd.raw 1).R E w' base (fun k => ¬ (lo ≤ k ∧ k < hi)) v (J.map fun j => [hd j])) : Kd.S (Kd.slice 3 (Kd.int .i64)) E w' base (fun _ => True) v (J.map fun j => t.getD j []) := by
  obtain ⟨h0, inner, ho, hr⟩ := hR
  refine ⟨fun k => J.idxOf (f k), fun _ _ => trivial, inner, ?_, ?_, ?_⟩
  · have := ho
    rw [List.length_map] at this
    rw [List.length_zipIdx, List.length_map]
    exact this
  · have := hr.1
    rw [List.length_map] at this
    rw [List.length_zipIdx, List.length_map]
    exact this
  · intro i p hp
    rw [List.getElem?_zipIdx, List.getElem?_map] at hp
    obtain ⟨j, hj⟩ : ∃ j, J[i]? = some j := by
      cases hj : J[i]? with
      | none => rw [hj] at hp; simp at hp
      | some j => exact ⟨j, rfl⟩
    rw [hj] at hp
    simp only [Option.map_some, Option.some.injEq] at hp
    subst hp
    have hseg := (hr.2 i [hd j] (by rw [List.getElem?_map, hj]; rfl)).1
    have hjm := List.mem_of_getElem? hj
    have h1 := (Kd.slice 3 (Kd.int .i64)).M_lower hb ((Kd.slice 3 (Kd.int .i64)).M_move (w1 := w') (fun k hk => hfr k hk.1.1 hk.1.2) (hM j hjm))
    have hidx : J.idxOf j = i := by
      obtain ⟨hlt, e⟩ := List.getElem?_eq_some_iff.1 hj
      rw [← e]
      exact hJn.idxOf_getElem i hlt
    show (Kd.slice 3 (Kd.int .i64)).M w' base (fun k => (True ∧ some k ≠ v.ownBlock) ∧ J.idxOf (f k) = 0 + i) (t.getD j []) ((inner.drop (i * 1)).take 1)
    rw [show (inner.drop (i * 1)).take 1 = [hd j] from hseg]
    refine (Kd.slice 3 (Kd.int .i64)).M_mono (fun k hk => ⟨⟨trivial, fun he => h0 k he.symm hk.1⟩, ?_⟩) h1
    show J.idxOf (f k) = 0 + i
    rw [hk.2, hidx, Nat.zero_add]
end
set_option maxHeartbeats 8000000 in
set_option maxRecDepth 100000 in
theorem impl_Preferred.calls (k : Nat) (a0_0 : Int) (A0_1 : Option Addr) (c0_1 : Nat) (l0_1 : List (List Int)) (r : List (List Int)) (w : World) (hr0_1 : Kd.C (Kd.slice 3 (Kd.int .i64)) w A0_1 l0_1.length l0_1) (hc0_1 : l0_1.length ≤ c0_1) (h : impl_Preferred.f k a0_0 l0_1 = some r) :
    Calls Try.prog 19 #[.agg #[.int .i64 a0_0, .slice A0_1 l0_1.length c0_1]] w fun e w' => ∃ v0_ : Value, e = .returned (v0_) ∧ Kd.S (Kd.slice 3 (Kd.int .i64)) 38 w' w.heap.size (fun _ => True) v0_ r ∧ Below w.heap.size w w' := by
  have hu27 := Try.underlying27
  have HR0_1 := Aside0.mk hr0_1
  have HC0_1 := Aside0.mk hc0_1
  clear hr0_1 hc0_1
  have HB := Aside0.mk (Below.refl w.heap.size w)
  have H : ((impl_AllComplete.f k a0_0 l0_1).bind fun t => impl_Preferred.l0 k ([] : List (List Int)) t 0) = some r := h
  clear h
  obtain ⟨t, A20, H⟩ := Option.bind_eq_some_iff.mp H
  have A2 := Aside0.mk A20
  clear A20
  have H' := Aside0.mk H
  clear H
  go_enter Try.func19, Try.ntmps19
  go_wp2_with (first
    | ((with_reducible refine Zr (N := 1) rfl ?_); refine Zu ?hg (N := 1) ?hd (cs := #[.int .i64 a0_0, .slice A0_1 l0_1.length c0_1]) (t := 27) ?hr ?_; (case hd => rfl); (case hg => rfl); (case hr => first | (go_simp; done) | (go_simp; rfl)); intro gbG hg w3 hbox hb; have n0_ := Aside0.mk (Zf HB.out hb); have BKG := Aside0.mk hbox; clear HB; have HB := n0_; clear n0_ hb hbox hg; have hcz6_0 : w3.cell? ⟨gbG, 0, none⟩ = some (.int .i64 a0_0) := (Ze BKG.out 0).trans rfl; have hcz6_1 : w3.cell? ⟨gbG, 1, none⟩ = some (.slice A0_1 l0_1.length c0_1) := (Ze BKG.out 1).trans rfl)
    | ((with_reducible refine Zl (f := 53) rfl ?_); refine Zx (some 8) rfl rfl Try.func53 (by kernel_rfl) rfl #[.agg #[.int .i64 a0_0, .slice A0_1 l0_1.length c0_1]] rfl (by (try simp only [List.map_toArray, List.map_cons, List.map_nil]); first | done | rfl) ?_; (with_reducible refine (impl_AllComplete.calls k a0_0 _ _ l0_1 t _ ?side1 ?side2 A2.out).mono ?_); (case side1 => exact cb_ HR0_1.out); (case side2 => exact HC0_1.out); rintro e w7 ⟨vA, rfl, hoA, hbA⟩; refine ⟨_, rfl, ?_⟩; obtain ⟨lo, HLO, HSX⟩ : ∃ lo, Aside0 (w.heap.size ≤ lo) ∧ Aside0 (Kd.S (Kd.slice 3 (Kd.int .i64)) 38 w7 lo (fun _ => True) vA t) := ⟨_, ⟨Zi HB.out⟩, ⟨hoA⟩⟩; have n0_ := Aside0.mk (Zf HB.out hbA); clear HB; have HB := n0_; clear n0_ hbA hoA; obtain ⟨Ao, co, eo⟩ := Kd.S_slice HSX.out; subst eo)
    | ((with_reducible refine Zr (N := 9) rfl ?_); refine Kd.R_lit (Kd.raw 1) _ 38 ?hg (N := 9) ?hd (xs := ([] : List (List Value))) (inner := []) (ok := fun _ => True) (okp := fun _ => True) ?hr ?hp (fun _ hk => hk) trivial (Below.refl _ _) (Nat.le_refl _) (by simp) ?_; (case hd => rfl); (case hg => rfl); (case hr => first | (go_simp; done) | (go_simp; rfl)); (case hp => exact (Reps.none _ _)); intro v9 w9 ho9 hb9 hg9 hnew9))
  obtain ⟨f, hS0, inner, hSo, hSr⟩ := Kd.S_bound HSX.out
  rw [List.length_zipIdx] at hSo
  rw [show (Kd.tag f (Kd.slice 3 (Kd.int .i64))).sz = 1 from rfl] at hSo hSr
  have hil : inner.length = t.length := by have := hSo.1; omega
  obtain ⟨hi, hhi⟩ : ∃ n, n = w7.heap.size := ⟨_, rfl⟩
  obtain ⟨hd, hhd⟩ : ∃ h : Nat → Value, h = fun j => inner.getD j (.int .i64 0) := ⟨_, rfl⟩
  have HM : Aside0 (∀ j, j < t.length → (Kd.slice 3 (Kd.int .i64)).M w7 lo (fun k => (lo ≤ k ∧ k < hi) ∧ f k = j) (t.getD j []) [hd j]) := ⟨fun j hj => by
    have h1 := hSr.2 j _ (Kd.zip_at (show t[j]? = some (t.getD j []) by rw [List.getD_eq_getElem?_getD, List.getElem?_eq_getElem hj]; rfl))
    rw [seg_one inner j (hd j) (by rw [show hd j = inner.getD j (.int .i64 0) by rw [hhd], List.getD_eq_getElem?_getD, List.getElem?_eq_getElem (by omega)]; rfl)] at h1
    exact (Kd.slice 3 (Kd.int .i64)).M_mono (fun k hk => ⟨⟨hk.1.1.2.1, by rw [hhi]; exact hk.1.1.2.2.1⟩, hk.2⟩) h1⟩
  have HCELL : Aside0 (∀ j, j < t.length → ∃ g, Ao = some ⟨g, 0, none⟩ ∧ (lo ≤ g ∧ g < hi) ∧ w7.cell? ⟨g, 0 + j, none⟩ = some (hd j)) := ⟨fun j hj => by
    rcases hSo.2 with ⟨_, hz⟩ | ⟨g, cap, cur, he, hbg, hh, hnc, hcm, hcs, ht⟩
    · omega
    · injection he with e1 e2 e3
      refine ⟨g, e1, ⟨hbg, by rw [hhi]; exact (Array.getElem?_eq_some_iff.1 hh).1⟩, ?_⟩
      rw [Nat.mul_one] at ht
      have h1 : (cur.toList.take t.length)[j]? = some (hd j) := by rw [ht, show hd j = inner.getD j (.int .i64 0) by rw [hhd], List.getD_eq_getElem?_getD, List.getElem?_eq_getElem (by omega)]; rfl
      rw [List.getElem?_take_of_lt hj] at h1
      simp only [World.cell?, hh, Nat.zero_add]
      simp only [Option.isSome_none, Bool.false_eq_true, if_false]
      rw [← Array.getElem?_toList, h1]⟩
  have HO9 : Aside0 ((Kd.raw 1).R 38 w9 w.heap.size (fun k => w7.heap.size ≤ k) v9 (([] : List Nat).map fun j => [hd j])) := ⟨Kd.R_lower (Kd.R_mono (Kd.R_bound ho9) (fun k hk => hk.2.1)) (Zi HB.out)⟩
  have HF9 := Aside0.mk hb9
  have HC7 := Aside0.mk (Kd.S_reads' HSX.out)
  have HB9 := Aside0.mk (Zf HB.out hb9)
  clear HB ho9 hb9 hg9 hnew9 hSo hSr hS0 hhd hil HSX
  go_loopg [4, 12] k (fun kq v4 v12 w' => ∃ (J : List Nat) (x12 : Int), v12 = .int .i64 x12 ∧ Aside0 (impl_Preferred.l0 kq (J.map fun j => t.getD j []) t x12 = some r) ∧ Aside0 (kq ≤ k) ∧ Aside0 ((Kd.raw 1).R 38 w' w.heap.size (fun k => w7.heap.size ≤ k) v4 (J.map fun j => [hd j])) ∧ Aside0 (Below w7.heap.size w7 w') ∧ Aside0 (J.Nodup ∧ (∀ j ∈ J, (j : Int) < x12 ∧ j < t.length)) ∧ Aside0 (Below w.heap.size w w'))
  case atStart => exact ⟨[], 0, rfl, H', ⟨Nat.le_refl _⟩, HO9, HF9, ⟨List.nodup_nil, fun j hj => absurd hj (by simp)⟩, HB9⟩
  case round =>
    clear H' HO9 HF9 HB9
    obtain ⟨J, x12, rfl, HA, HK1, HO, HF, HJ, HB⟩ := hrel
    cases gk with
    | zero => exact absurd HA.out (by simp [impl_Preferred.l0])
    | succ k1 =>
      have H := HA.out
      clear HA
      simp only [impl_Preferred.l0] at H
      by_cases c3 : x12 < (t.length : Int)
      · rw [if_pos c3] at H
        have c3b0 : decide (x12 < (t.length : Int)) = true := decide_eq_true c3
        by_cases c4 : 0 ≤ x12
        · rw [if_pos c4] at H
          have c4b0 : decide (0 ≤ x12) = true := decide_eq_true c4
          obtain ⟨tq, A60, H⟩ := Option.bind_eq_some_iff.mp H
          obtain ⟨row, hrow⟩ : ∃ row : List Int, row = t.getD x12.toNat [] := ⟨_, rfl⟩
          have A6 : Aside0 (prefAny.l0 k1 t row 0 = some tq) := ⟨by rw [hrow]; exact A60⟩
          clear A60
          have hx : x12.toNat < t.length := by omega
          obtain ⟨g, hAo, hgi, hcl7⟩ := HCELL.out x12.toNat hx
          obtain ⟨ad, had⟩ : ∃ ad, ad = (⟨g, 0, none⟩ : Addr) := ⟨_, rfl⟩
          rw [← had] at hAo
          have hMi := HM.out x12.toNat hx
          rw [← hrow] at hMi
          obtain ⟨Ai, ci, hei, hli, hCi⟩ := (Kd.slice 3 (Kd.int .i64)).K_of_M ((Kd.slice 3 (Kd.int .i64)).M_move (w1 := wr) (fun k hk => HF.out.block k (by rw [← hhi]; exact hk.1.2)) hMi)
          have hei : hd x12.toNat = .slice Ai row.length ci := by injection hei
          have hx15 : wr.cell? (ad.add x12.toNat) = some (.slice Ai row.length ci) := by
            rw [← hei, ← hcl7, had, add_at]
            unfold World.cell?
            rw [HF.out.block g (by rw [← hhi]; exact hgi.2)]
          have p101 : 0 ≤ (x12 : Int) := c4
          have q101 : x12 < (t.length : Int) := c3
          clear c3 c4
          replace p101 := eq_true p101
          replace q101 := eq_true q101
          subst hAo
          obtain ⟨_, hco, hC7⟩ := HC7.out
          have hlen : t.length ≤ 9223372036854775807 := hC7.2.1
          have hCw := Kd.C_below hC7 HF.out
          have hw1 : wrap64 (x12 + 1) = x12 + 1 := by
            have := of_decide_eq_true c3b0
            have := of_decide_eq_true c4b0
            unfold wrap64
            omega
          have HALL := Aside0.mk hCw
          have HROW := Aside0.mk hCi
          have HCO := Aside0.mk hco
          have HLI := Aside0.mk hli
          have HEI := Aside0.mk hei
          have HROWE := Aside0.mk hrow
          clear hrow hx
          clear hC7 hCw hCi hco hli hei hMi hcl7 had
          have HCALL : ∀ (w5 : World) (gA m : Nat), w5.heap[gA]? = some (.cells #[.slice none 0 0] 38 (0, 0)) → wr.heap.size ≤ gA → Below wr.heap.size wr w5 → Calls Try.prog 54 #[.slice (some ad) t.length co, .func (.func 55) #[] #[.pointer (some ⟨gA, 0, none⟩)]] ((w5.setCell ⟨gA, 0, none⟩ (.slice Ai row.length ci)).drewN m) fun e w' => e = .returned (.bool (decide (0 ≤ tq))) ∧ Below wr.heap.size wr w' ∧ w'.cell? ⟨gA, 0, none⟩ = some (.slice Ai row.length ci) := by
            intro w5 gA m hbox hgA hb5
            have hput := blk_put hbox 0 (.slice Ai row.length ci) rfl
            have hbs := below_set (j := 0) (v := .slice Ai row.length ci) hb5 hgA
            have hbm := pw_below_drewN hbs m
            refine (prefAny.calls k1 (some ad) co t Ai ci row gA tq _ (Kd.C_below HALL.out hbm) HCO.out (Kd.C_below HROW.out hbm) HLI.out (blk_lt hput) ((Ze hput 0).trans rfl) A6.out).mono ?_
            rintro e w' ⟨rfl, nd, rfl⟩
            exact ⟨rfl, pw_below_drewN hbm nd, (Ze hput 0).trans rfl⟩
          by_cases c6 : 0 ≤ tq
          · rw [if_pos c6] at H
            have c6b : decide (0 ≤ tq) = true := decide_eq_true c6
            clear c6
            rw [hw1] at H
            have H' := Aside0.mk H
            clear H
            go_wp2_with (first
              | ((with_reducible refine Zr (N := 6) rfl ?_); refine Zu ?hg (N := 6) ?hd (cs := #[.slice none 0 0]) (t := 38) ?hr ?_; (case hd => rfl); (case hg => rfl); (case hr => first | (go_simp; done) | (go_simp; rfl)); intro gA hgA w5 hbox hb5; have HC5 := HCALL w5 gA 0 hbox (Nat.le_of_eq hgA.symm) hb5; have hcz5 : w5.cell? ⟨gA, 0, none⟩ = some (.slice none 0 0) := (Ze hbox 0).trans rfl; have hfz5 := Zd hbox 0; clear hbox hb5 hgA HCALL)
              | (go_at_call 54; refine HC5.mono ?_; rintro e w8 ⟨rfl, hb8, hcz8⟩; have HB8 := Aside0.mk hb8; clear hb8))
            go_roundg k1
            case measure => have := HK1.out; omega
            case rel => exact ⟨J, x12 + 1, (by first | rfl | rw [hw1]), H', ⟨by have := HK1.out; omega⟩, ⟨raw_keep HO.out (fun k hk => HB8.out.block k (Kd.R_lt HO.out k hk))⟩, ⟨Zf HF.out HB8.out⟩, ⟨HJ.out.1, fun j hj => ⟨by have := (HJ.out.2 j hj).1; omega, (HJ.out.2 j hj).2⟩⟩, ⟨Zf HB.out HB8.out⟩⟩
          · rw [if_neg c6] at H
            have c6b : decide (0 ≤ tq) = false := decide_eq_false c6
            clear c6
            by_cases c7 : (J.map fun j => t.getD j []).length < 5864062014805
            · rw [if_pos c7] at H
              rw [hw1] at H
              have hJl : J.length < 5864062014805 := by rwa [List.length_map] at c7
              clear c7
              have H' : Aside0 (impl_Preferred.l0 k1 ((J ++ [x12.toNat]).map fun j => t.getD j []) t (x12 + 1) = some r) := ⟨by rw [List.map_append]; exact H⟩
              clear H
              go_wp2_with (first
                | ((with_reducible refine Zr (N := 6) rfl ?_); refine Zu ?hg (N := 6) ?hd (cs := #[.slice none 0 0]) (t := 38) ?hr ?_; (case hd => rfl); (case hg => rfl); (case hr => first | (go_simp; done) | (go_simp; rfl)); intro gA hgA w5 hbox hb5; have HC5 := HCALL w5 gA 0 hbox (Nat.le_of_eq hgA.symm) hb5; have hcz5 : w5.cell? ⟨gA, 0, none⟩ = some (.slice none 0 0) := (Ze hbox 0).trans rfl; have hfz5 := Zd hbox 0; clear hbox hb5 hgA HCALL)
                | (go_at_call 54; refine HC5.mono ?_; rintro e w8 ⟨rfl, hb8, hcz8⟩; have HB8 := Aside0.mk hb8; clear hb8)
                | ((with_reducible refine gate_builtin (b := .append) (xs := #[.tmp 20, .tmp 22]) rfl ?_); at_builtin; refine Kd.R_append (Kd.raw 1) (w0 := w) w.heap.size rfl (.tmp 20) (.tmp 22) 22 38 (.slice none 0 0) 24 rfl Try.underlying22 info38 rfl (by decide) (by omega) u4 (J.map fun j => [hd j]) [hd x12.toNat] [.slice Ai row.length ci] (fun k => w7.heap.size ≤ k) (fun _ => False) rfl rfl ?aP (fun _ hk => hk.elim) ?aF ?aO ?aB ?aS ?aL ?_; (case aP => exact ⟨by rw [HEI.out], rfl, fun u hu => by rw [List.mem_singleton.1 hu]; rfl⟩); (case aF => exact fun k hk => Nat.le_trans (Nat.le_trans (Zi HF.out) (Zi HB8.out)) hk); (case aO => exact raw_keep HO.out (fun k hk => HB8.out.block k (Kd.R_lt HO.out k hk))); (case aB => exact Zf HB.out HB8.out); (case aS => exact Zi (Zf HB.out HB8.out)); (case aL => rw [List.length_map]; omega); intro v23 w23 ho23 hb23 hg23 hat23; have HO2 := Aside0.mk ho23; have HF2 := Aside0.mk ((Zf HF.out HB8.out).grown hg23 (Zi (Zf HF.out HB8.out)) (fun k hk => HO.out.1 k hk)); have HB2 := Aside0.mk hb23; clear ho23 hb23 hg23 hat23))
              go_roundg k1
              case measure => have := HK1.out; omega
              case rel => exact ⟨J ++ [x12.toNat], x12 + 1, (by first | rfl | rw [hw1]), H', ⟨by have := HK1.out; omega⟩, ⟨by rw [List.map_append]; exact HO2.out⟩, HF2, ⟨List.nodup_append.2 ⟨HJ.out.1, by simp, fun a ha b hb => by rw [List.mem_singleton.1 hb]; have := (HJ.out.2 a ha).1; omega⟩, fun j hj => by
                have q1 := of_decide_eq_true c3b0
                have q2 := of_decide_eq_true c4b0
                rcases List.mem_append.1 hj with hj | hj
                · have := HJ.out.2 j hj
                  omega
                · rw [List.mem_singleton.1 hj]
                  omega⟩, HB2⟩
            · rw [if_neg c7] at H
              exact absurd H (by simp)
        · rw [if_neg c4] at H
          exact absurd H (by simp)
      · rw [if_neg c3] at H
        have c3b0 : decide (x12 < (t.length : Int)) = false := decide_eq_false c3
        clear c3
        obtain rfl := Option.some.inj H
        go_wp2
        go_ret
        exact ⟨_, rfl, S_pick hd J (fun j hj => HM.out j (HJ.out.2 j hj).2) (fun k _ h2 => HF.out.block k (by rw [← hhi]; exact h2)) HLO.out HJ.out.1 (Kd.R_mono (by first | exact HO.out | exact Kd.R_drewN HO.out _ | exact Kd.R_drew HO.out) (fun k hk hc => by have := hc.2; omega)), by first | exact HB.out | exact pw_below_drewN HB.out _ | exact below_drew1 HB.out⟩

/-! ### impl_InAll: function 50 -/
/-- The first row that does not hold a number. -/
def inAny.l0 : Nat → List (List Int) → Int → Int → Option Int
  | 0, _, _, _ => none
  | k + 1, x0, x1, x8 => if x8 < (x0.length : Int) then (if 0 ≤ x8 then ((slices_Contains_int_int.f k (rd_L1 x0 x8) x1).bind fun t => (if t = true then (inAny.l0 k x0 x1 (wrap64 (x8 + 1))) else (some x8))) else (none)) else (some (-1))
theorem inAny.mono_l : ∀ k, (∀ y0 y1 y2, LeO (inAny.l0 k y0 y1 y2) (inAny.l0 (k + 1) y0 y1 y2))
  | 0 => fun _ _ _ => by (unfold inAny.l0; exact Zg _)
  | k + 1 => by
    have ih0 := inAny.mono_l k
    · intro y0 y1 y2
      unfold inAny.l0
      repeat' first
      | (with_reducible exact ih0 _ _ _)
      | (with_reducible exact slices_Contains_int_int.mono _ _ _)
      | (with_reducible exact Zs _)
      | (with_reducible exact Zg _)
      | (with_reducible refine Zn ?_ ?_)
      | (with_reducible refine Zh ?_ (fun _ => ?_))
      | exact ih0 _ _ _
      | exact Zg _
      | refine Zn ?_ ?_
      | refine Zh ?_ (fun _ => ?_)
def impl_InAll.l0 : Nat → List (List Int) → List Int → List Int → Int → Option (List Int)
  | 0, _, _, _, _ => none
  | k + 1, x0, x1, x3, x15 => if x15 < (x1.length : Int) then (if 0 ≤ x15 then ((inAny.l0 k x0 (rd x1 x15) 0).bind fun t => (if 0 ≤ t then (impl_InAll.l0 k x0 x1 x3 (wrap64 (x15 + 1))) else (if x3.length < 17592186044416 then (impl_InAll.l0 k x0 x1 (x3 ++ [rd x1 x15]) (wrap64 (x15 + 1))) else (none)))) else (none)) else (some x3)
def impl_InAll.f (k : Nat) (l0 : List (List Int)) : Option (List Int) := if (l0.length : Int) = 0 then (some []) else (impl_InAll.l0 k l0 (rd_L1 l0 0) [] 0)
theorem impl_InAll.mono_l : ∀ k, (∀ y0 y1 y2 y3, LeO (impl_InAll.l0 k y0 y1 y2 y3) (impl_InAll.l0 (k + 1) y0 y1 y2 y3))
  | 0 => fun _ _ _ _ => by (unfold impl_InAll.l0; exact Zg _)
  | k + 1 => by
    have ih0 := impl_InAll.mono_l k
    · intro y0 y1 y2 y3
      unfold impl_InAll.l0
      repeat' first
      | (with_reducible exact ih0 _ _ _ _)
      | (with_reducible exact inAny.mono_l _ _ _ _)
      | (with_reducible exact Zs _)
      | (with_reducible exact Zg _)
      | (with_reducible refine Zn ?_ ?_)
      | (with_reducible refine Zh ?_ (fun _ => ?_))
      | exact ih0 _ _ _ _
      | exact Zg _
      | refine Zn ?_ ?_
      | refine Zh ?_ (fun _ => ?_)
theorem impl_InAll.mono : ∀ a0 k, LeO (impl_InAll.f k a0) (impl_InAll.f (k + 1) a0) := by
  intro a0 k
  unfold impl_InAll.f
  exact Zn (Zs _) (impl_InAll.mono_l _ _ _ _ _)
set_option maxHeartbeats 8000000 in
set_option maxRecDepth 100000 in
/-- The function value at a row, with the number in its box. -/
theorem inAny.fn (k : Nat) (A0 : Option Addr) (c0 : Nat) (l0 : List Int) (x : Int) (B : Nat) (r : Bool) (w : World) (hr0 : Kd.C (Kd.int .i64) w A0 l0.length l0) (hc0 : l0.length ≤ c0) (hcell : w.cell? ⟨B, 0, none⟩ = some (.int .i64 x)) (h : slices_Contains_int_int.f k l0 x = some r) :
    Calls Try.prog 76 #[.slice A0 l0.length c0, .pointer (some ⟨B, 0, none⟩)] w fun e w' => e = .returned (.bool (!r)) ∧ Drawn0 w w' := by
  have hcon := fun W (h0 : Kd.C (Kd.int .i64) W A0 l0.length l0) => slices_Contains_int_int.calls k A0 c0 l0 x r W h0 hc0 h
  go_enter Try.func76, Try.ntmps76
  go_wp2_with (go_at_call 49; refine (hcon _ (by first | exact hr0 | exact Zy hr0 | exact Zt hr0 _)).mono ?_; rintro e w' ⟨rfl, ⟨nd, rfl⟩⟩)
  go_ret
  exact ⟨by first | rfl | (cases r <;> rfl) | (cases r <;> simp), dr_⟩
set_option maxHeartbeats 8000000 in
set_option maxRecDepth 100000 in
theorem inAny.finds (k : Nat) (A0 : Option Addr) (c0 : Nat) (l0 : List (List Int)) (x : Int) (B : Nat) (r : Int) (w : World) (hr0 : Kd.C (Kd.slice 3 (Kd.int .i64)) w A0 l0.length l0) (hc0 : l0.length ≤ c0) (hB : B < w.heap.size) (hcell : w.cell? ⟨B, 0, none⟩ = some (.int .i64 x)) (h : inAny.l0 k l0 x 0 = some r) :
    Calls Try.prog 82 #[.slice A0 l0.length c0, .func (.func 76) #[] #[.pointer (some ⟨B, 0, none⟩)]] w fun e w' => e = .returned (.int .i64 r) ∧ Drawn0 w w' := by
  have eg : ∀ args w, (callFunc 76 args).run Try.prog w = .ok (.enter 76 args) w := enters_of Try.func76 (by kernel_rfl) rfl
  have H' := Aside0.mk h
  have HR0 := Aside0.mk hr0
  have HCELL := Aside0.mk hcell
  have HBB := Aside0.mk hB
  clear h hr0 hcell hB
  go_enter Try.func82, Try.ntmps82
  go_wp2
  go_loopg [5, 8] k (fun kq _ v8 w' => ∃ (x8_1 : Int), v8 = .int .i64 x8_1 ∧ Aside0 (inAny.l0 kq l0 x x8_1 = some r) ∧ Aside0 (kq ≤ k) ∧ Drawn0 w w')
  case atStart => exact ⟨0, rfl, H', ⟨Nat.le_refl _⟩, dr_⟩
  case round =>
    clear H'
    obtain ⟨x8_1, rfl, HA, HK1, ⟨m1, rfl⟩⟩ := hrel
    cases gk with
    | zero => exact absurd HA.out (by simp [inAny.l0])
    | succ k1 =>
      have H := HA.out
      clear HA
      simp only [inAny.l0] at H
      by_cases c3 : x8_1 < (l0.length : Int)
      · rw [if_pos c3] at H
        have c3b0 : decide (x8_1 < (l0.length : Int)) = true := decide_eq_true c3
        by_cases c4 : 0 ≤ x8_1
        · rw [if_pos c4] at H
          have c4b0 : decide (0 ≤ x8_1) = true := decide_eq_true c4
          have p101 : 0 ≤ (x8_1 : Int) := c4
          have q101 : x8_1 < (l0.length : Int) := c3
          clear c3 c4
          obtain ⟨ad101, A101_0, c101_0, e101, hx101_0, hl101_0, hi101_0⟩ := at_L1 HR0.out x8_1 p101 q101
          cases e101
          obtain ⟨t102, hcall, H⟩ : ∃ t102 : Bool, (Calls Try.prog 76 (#[.slice A101_0 (rd_L1 l0 x8_1).length c101_0] ++ #[.pointer (some ⟨B, 0, none⟩)]) (w.drewN m1) fun e w' => e = .returned (.bool t102) ∧ Drawn0 (w.drewN m1) w') ∧ (if t102 = true then (some x8_1) else (inAny.l0 k1 l0 x (wrap64 (x8_1 + 1)))) = some r := by
            have hce := (((pw_below_drewN (Below.refl w.heap.size w) m1).cell (p := ⟨B, 0, none⟩) HBB.out).trans HCELL.out)
            obtain ⟨t, hw, H⟩ := Option.bind_eq_some_iff.mp H
            refine ⟨!t, inAny.fn k1 A101_0 c101_0 (rd_L1 l0 x8_1) x B t (w.drewN m1) (Zt hi101_0 _) hl101_0 hce hw, ?_⟩
            cases t with
            | true => rw [if_pos rfl] at H; rw [if_neg (by decide)]; exact H
            | false => rw [if_neg (by decide)] at H; rw [if_pos (by decide)]; exact H
          clear hi101_0 hl101_0
          replace p101 := eq_true p101
          replace q101 := eq_true q101
          cases t102 with
          | true =>
            rw [if_pos rfl] at H
            obtain rfl := Option.some.inj H
            go_wp2_with (go_at_call 76; refine hcall.mono ?_; rintro e w' ⟨rfl, ⟨nd, rfl⟩⟩)
            go_ret
            exact ⟨rfl, dr_⟩
          | false =>
            rw [if_neg (by decide)] at H
            have H' := Aside0.mk H
            clear H
            go_wp2_with (go_at_call 76; refine hcall.mono ?_; rintro e w' ⟨rfl, ⟨nd, rfl⟩⟩)
            go_roundg k1
            case measure => have := HK1.out; omega
            case rel => exact ⟨(wrap64 (x8_1 + 1)), sm_, H', ⟨by have := HK1.out; omega⟩, dr_⟩
        · rw [if_neg c4] at H
          exact absurd H (by simp)
      · rw [if_neg c3] at H
        have c3b0 : decide (x8_1 < (l0.length : Int)) = false := decide_eq_false c3
        clear c3
        obtain rfl := Option.some.inj H
        go_wp2
        go_ret
        exact ⟨rfl, dr_⟩
set_option maxHeartbeats 8000000 in
set_option maxRecDepth 100000 in
theorem inAny.calls (k : Nat) (A0 : Option Addr) (c0 : Nat) (l0 : List (List Int)) (x : Int) (B : Nat) (r : Int) (w : World) (hr0 : Kd.C (Kd.slice 3 (Kd.int .i64)) w A0 l0.length l0) (hc0 : l0.length ≤ c0) (hB : B < w.heap.size) (hcell : w.cell? ⟨B, 0, none⟩ = some (.int .i64 x)) (h : inAny.l0 k l0 x 0 = some r) :
    Calls Try.prog 54 #[.slice A0 l0.length c0, .func (.func 76) #[] #[.pointer (some ⟨B, 0, none⟩)]] w fun e w' => e = .returned (.bool (decide (0 ≤ r))) ∧ Drawn0 w w' := by
  have hcon := fun m => inAny.finds k A0 c0 l0 x B r (w.drewN m) (Zt hr0 _) hc0 (by simpa [World.drewN] using hB) (((pw_below_drewN (Below.refl w.heap.size w) m).cell (p := ⟨B, 0, none⟩) hB).trans hcell) h
  have hcon0 := inAny.finds k A0 c0 l0 x B r w hr0 hc0 hB hcell h
  clear hr0 h hcell
  have hge : decide (r ≥ 0) = decide (0 ≤ r) := rfl
  go_enter Try.func54, Try.ntmps54
  go_wp2_with (go_at_call 82; first | (refine hcon0.mono ?_; rintro e w' ⟨rfl, ⟨nd, rfl⟩⟩) | (refine (hcon _).mono ?_; rintro e w' ⟨rfl, ⟨nd, rfl⟩⟩))
  go_ret
  exact ⟨by first | rfl | (simp; done), dr_⟩
set_option maxHeartbeats 8000000 in
set_option maxRecDepth 100000 in
theorem impl_InAll.calls (k : Nat) (A0 : Option Addr) (c0 : Nat) (l0 : List (List Int)) (r : List Int) (w : World) (hr0 : Kd.C (Kd.slice 3 (Kd.int .i64)) w A0 l0.length l0) (hc0 : l0.length ≤ c0) (h : impl_InAll.f k l0 = some r) :
    Calls Try.prog 50 #[.slice A0 l0.length c0] w fun e w' => ∃ v0_ : Value, e = .returned (v0_) ∧ Kd.R (Kd.int .i64) 3 w' w.heap.size (fun _ => True) v0_ r ∧ Below w.heap.size w w' := by
  have HR0 := Aside0.mk hr0
  have HC0 := Aside0.mk hc0
  clear hr0 hc0
  have HB := Aside0.mk (Below.refl w.heap.size w)
  have H : (if (l0.length : Int) = 0 then (some []) else (impl_InAll.l0 k l0 (rd_L1 l0 0) [] 0)) = some r := h
  clear h
  by_cases c1 : (l0.length : Int) = 0
  · rw [if_pos c1] at H
    obtain rfl := Option.some.inj H
    have c1b0 : ((l0.length : Int) == 0) = true := beq_iff_eq.mpr c1
    have c1b1 : l0.length = 0 := by omega
    go_enter Try.func50, Try.ntmps50
    go_wp2_with (first
      | ((with_reducible refine Zr (N := 6) rfl ?_); refine Kd.R_lit (Kd.int .i64) _ 3 ?hg (N := 6) ?hd (xs := ([] : List Int)) (inner := []) (ok := fun _ => True) (okp := fun _ => True) ?hr ?hp (fun _ hk => hk) trivial (Below.refl _ _) (Nat.le_refl _) (by simp) ?_; (case hd => rfl); (case hg => rfl); (case hr => first | (go_simp; done) | (go_simp; rfl)); (case hp => exact (Reps.none _ _)); intro v4 w6 ho7 hb hg_ hnew_; clear hg_ hnew_; have HO := Aside0.mk ho7; have HB6 := Aside0.mk hb; clear ho7 hb))
    go_ret
    exact ⟨_, by first | rfl | (simp; done), Kd.R_lower (by first | exact HO.out | exact Kd.R_drewN HO.out _ | exact Kd.R_drew HO.out) (Nat.le_refl _), by first | exact HB6.out | exact pw_below_drewN HB6.out _ | exact below_drew1 HB6.out⟩
  · rw [if_neg c1] at H
    have c1b0 : ((l0.length : Int) == 0) = false := beq_eq_false_iff_ne.mpr c1
    have c1b1 : ¬ l0.length = 0 := by omega
    have H' := Aside0.mk H
    clear H
    have q3 : (0 : Int) < (l0.length : Int) := by omega
    obtain ⟨ad3, As, cs, e3, hx3, hls, his⟩ := at_L1 HR0.out 0 (Int.le_refl 0) q3
    cases e3
    rw [show ((0 : Int)).toNat = 0 from rfl, Addr.add_zero'] at hx3
    obtain ⟨s, hs⟩ : ∃ s : List Int, s = rd_L1 l0 0 := ⟨_, rfl⟩
    rw [← hs] at H' hx3 hls his
    have HS := Aside0.mk his
    have HLS := Aside0.mk hls
    clear his hls hs c1
    replace q3 := eq_true q3
    have qn3 : (0 < l0.length) = True := eq_true (by omega)
    go_enter Try.func50, Try.ntmps50
    go_wp2_with (first
      | ((with_reducible refine Zr (N := 6) rfl ?_); refine Kd.R_lit (Kd.int .i64) _ 3 ?hg (N := 6) ?hd (xs := ([] : List Int)) (inner := []) (ok := fun _ => True) (okp := fun _ => True) ?hr ?hp (fun _ hk => hk) trivial (Below.refl _ _) (Nat.le_refl _) (by simp) ?_; (case hd => rfl); (case hg => rfl); (case hr => first | (go_simp; done) | (go_simp; rfl)); (case hp => exact (Reps.none _ _)); intro v4 w6 ho7 hb hg_ hnew_; clear hg_ hnew_; have HO := Aside0.mk ho7; replace hx3 := (hb.cell (World.block_lt_of_cell? w _ hx3)).trans hx3; clear HB; have HB := Aside0.mk hb; clear ho7 hb))
    go_loopg [3, 15] k (fun kq v3 v15 w' => ∃ (y3 : List Int) (x15 : Int), v15 = .int .i64 x15 ∧ Aside0 (impl_InAll.l0 kq l0 s y3 x15 = some r) ∧ Aside0 (kq ≤ k) ∧ Aside0 (Kd.R (Kd.int .i64) 3 w' w.heap.size (fun _ => True) v3 y3) ∧ Aside0 (Below w.heap.size w w'))
    case atStart => exact ⟨[], 0, rfl, H', ⟨Nat.le_refl _⟩, HO, HB⟩
    case round =>
      clear H' HO HB
      obtain ⟨y3, x15, rfl, HA, HK1, HO, HB⟩ := hrel
      cases gk with
      | zero => exact absurd HA.out (by simp [impl_InAll.l0])
      | succ k1 =>
        have H := HA.out
        clear HA
        simp only [impl_InAll.l0] at H
        by_cases c3 : x15 < (s.length : Int)
        · rw [if_pos c3] at H
          have c3b0 : decide (x15 < (s.length : Int)) = true := decide_eq_true c3
          by_cases c4 : 0 ≤ x15
          · rw [if_pos c4] at H
            have c4b0 : decide (0 ≤ x15) = true := decide_eq_true c4
            obtain ⟨tq, A60, H⟩ := Option.bind_eq_some_iff.mp H
            have A6 := Aside0.mk A60
            clear A60
            have p9 : 0 ≤ (x15 : Int) := c4
            have q9 : x15 < (s.length : Int) := c3
            clear c3 c4
            obtain ⟨ad9, e9, hx9⟩ := Zo (Kd.C_below HS.out HB.out) x15 p9 q9
            cases e9
            replace p9 := eq_true p9
            replace q9 := eq_true q9
            obtain ⟨n9, hn9⟩ : ∃ n : Int, n = rd s x15 := ⟨_, rfl⟩
            have HN9 := Aside0.mk hn9
            rw [← hn9] at H A6 hx9
            clear hn9
            have HCALL : ∀ (w5 : World) (gA m : Nat), w5.heap[gA]? = some (.cells #[.int .i64 0] 3 (0, 0)) → wr.heap.size ≤ gA → Below wr.heap.size wr w5 → Calls Try.prog 54 #[.slice (some ad3) l0.length c0, .func (.func 76) #[] #[.pointer (some ⟨gA, 0, none⟩)]] ((w5.setCell ⟨gA, 0, none⟩ (.int .i64 n9)).drewN m) fun e w' => e = .returned (.bool (decide (0 ≤ tq))) ∧ Below wr.heap.size wr w' ∧ w'.cell? ⟨gA, 0, none⟩ = some (.int .i64 n9) := by
              intro w5 gA m hbox hgA hb5
              have hput := blk_put hbox 0 (.int .i64 n9) rfl
              have hbs := below_set (j := 0) (v := .int .i64 n9) hb5 hgA
              have hbm := pw_below_drewN hbs m
              refine (inAny.calls k1 (some ad3) c0 l0 n9 gA tq _ (Kd.C_below HR0.out (Zf HB.out hbm)) HC0.out (blk_lt hput) ((Ze hput 0).trans rfl) A6.out).mono ?_
              rintro e w' ⟨rfl, nd, rfl⟩
              exact ⟨rfl, pw_below_drewN hbm nd, (Ze hput 0).trans rfl⟩
            by_cases c6 : 0 ≤ tq
            · rw [if_pos c6] at H
              have c6b : decide (0 ≤ tq) = true := decide_eq_true c6
              clear c6
              have H' := Aside0.mk H
              clear H
              go_wp2_with (first
                | ((with_reducible refine Zr (N := 5) rfl ?_); refine Zu ?hg (N := 5) ?hd (cs := #[.int .i64 0]) (t := 3) ?hr ?_; (case hd => rfl); (case hg => rfl); (case hr => first | (go_simp; done) | (go_simp; rfl)); intro gA hgA w5 hbox hb5; have HC5 := HCALL w5 gA 0 hbox (Nat.le_of_eq hgA.symm) hb5; have hcz5 : w5.cell? ⟨gA, 0, none⟩ = some (.int .i64 0) := (Ze hbox 0).trans rfl; have hfz5 := Zd hbox 0; clear hbox hb5 hgA HCALL)
                | (go_at_call 54; refine HC5.mono ?_; rintro e w8 ⟨rfl, hb8, hcz8⟩; have HB8 := Aside0.mk hb8; clear hb8))
              go_roundg k1
              case measure => have := HK1.out; omega
              case rel => exact ⟨y3, (wrap64 (x15 + 1)), sm_, H', ⟨by have := HK1.out; omega⟩, ⟨Kd.R_below HO.out HB8.out⟩, ⟨Zf HB.out HB8.out⟩⟩
            · rw [if_neg c6] at H
              have c6b : decide (0 ≤ tq) = false := decide_eq_false c6
              clear c6
              by_cases c7 : y3.length < 17592186044416
              · rw [if_pos c7] at H
                have LMc7 := Aside0.mk c7
                clear c7
                have H' := Aside0.mk H
                clear H
                go_wp2_with (first
                  | ((with_reducible refine Zr (N := 5) rfl ?_); refine Zu ?hg (N := 5) ?hd (cs := #[.int .i64 0]) (t := 3) ?hr ?_; (case hd => rfl); (case hg => rfl); (case hr => first | (go_simp; done) | (go_simp; rfl)); intro gA hgA w5 hbox hb5; have HC5 := HCALL w5 gA 0 hbox (Nat.le_of_eq hgA.symm) hb5; have hcz5 : w5.cell? ⟨gA, 0, none⟩ = some (.int .i64 0) := (Ze hbox 0).trans rfl; have hfz5 := Zd hbox 0; clear hbox hb5 hgA HCALL)
                  | (go_at_call 54; refine HC5.mono ?_; rintro e w8 ⟨rfl, hb8, hcz8⟩; have HB8 := Aside0.mk hb8; clear hb8)
                  | ((with_reducible refine gate_builtin (b := .append) (xs := #[.tmp 23, .tmp 25]) rfl ?_); at_builtin; refine Kd.R_append (Kd.int .i64) (w0 := w) w.heap.size rfl (.tmp 23) (.tmp 25) 38 3 (.int .i64 0) 8 rfl Try.underlying38 info3 rfl (by decide) (by omega) u3 y3 n9 [.int .i64 n9] (fun _ => True) (fun _ => False) rfl rfl ?aP (fun _ hk => hk.elim) ?aF ?aO ?aB ?aS ?aL ?_; (case aP => exact rfl); (case aB => exact (by repeat (first | exact (Zf HB.out HB8.out) | apply below_alloc | apply pw_below_drewN | apply below_drew1))); (case aF => exact (fun k_ hk => trivial)); (case aO => exact (by (with_reducible repeat (first | apply Kd.R_alloc | apply Kd.R_drewN | apply Kd.R_drew)); exact Kd.R_below HO.out HB8.out)); (case aS => exact (Zi (by repeat (first | exact (Zf HB.out HB8.out) | apply below_alloc | apply pw_below_drewN | apply below_drew1)))); (case aL => have := LMc7.out; omega); intro v23 w23 ho23 hb23 hg23 hat23; have HO2 := Aside0.mk ho23; have HB2 := Aside0.mk hb23; clear ho23 hb23 hg23 hat23))
                go_roundg k1
                case measure => have := HK1.out; omega
                case rel => exact ⟨y3 ++ [n9], (wrap64 (x15 + 1)), sm_, H', ⟨by have := HK1.out; omega⟩, HO2, HB2⟩
              · rw [if_neg c7] at H
                exact absurd H (by simp)
          · rw [if_neg c4] at H
            exact absurd H (by simp)
        · rw [if_neg c3] at H
          have c3b0 : decide (x15 < (s.length : Int)) = false := decide_eq_false c3
          clear c3
          obtain rfl := Option.some.inj H
          go_wp2
          go_ret
          exact ⟨_, by first | rfl | (simp; done), by first | exact HO.out | exact Kd.R_drewN HO.out _ | exact Kd.R_drew HO.out, by first | exact HB.out | exact pw_below_drewN HB.out _ | exact below_drew1 HB.out⟩

/-! ### impl_IsCertain: function 16 -/
def impl_IsCertain.f (k : Nat) (a0_0 : Int) (l0_1 : List (List Int)) (a1 : Int) : Option (Bool) := (impl_Preferred.f k a0_0 l0_1).bind fun t427 => ((impl_InAll.f k t427).bind fun t430 => ((slices_Contains_int_int.f k t430 a1).bind fun t433 => (some t433)))
theorem impl_IsCertain.mono : ∀ a0 a1 a2 k, LeO (impl_IsCertain.f k a0 a1 a2) (impl_IsCertain.f (k + 1) a0 a1 a2) := by
 intro a0 a1 a2 k
 unfold impl_IsCertain.f
 repeat' first
   | (with_reducible exact impl_InAll.mono _ _)
   | (with_reducible exact impl_Preferred.mono _ _ _)
   | (with_reducible exact slices_Contains_int_int.mono _ _ _)
   | (with_reducible exact Zs _)
   | (with_reducible exact Zg _)
   | (with_reducible refine Zn ?_ ?_)
   | (with_reducible refine Zh ?_ (fun _ => ?_))
   | exact impl_InAll.mono _ _
   | exact impl_Preferred.mono _ _ _
   | exact slices_Contains_int_int.mono _ _ _
   | exact Zg _
   | refine Zn ?_ ?_
   | refine Zh ?_ (fun _ => ?_)
set_option maxHeartbeats 8000000 in
set_option maxRecDepth 100000 in
theorem impl_IsCertain.calls (k : Nat) (a0_0 : Int) (A0_1 : Option Addr) (c0_1 : Nat) (l0_1 : List (List Int)) (a1 : Int) (r : Bool) (w : World) (hr0_1 : Kd.C (Kd.slice 3 (Kd.int .i64)) w A0_1 l0_1.length l0_1) (hc0_1 : l0_1.length ≤ c0_1) (h : impl_IsCertain.f k a0_0 l0_1 a1 = some r) :
  Calls Try.prog 16 #[.agg #[.int .i64 a0_0, .slice A0_1 l0_1.length c0_1], .int .i64 a1] w fun e w' => e = .returned (.bool r) ∧ Below w.heap.size w w' := by
 have hu27 := Try.underlying27
 have HR0_1 := Aside0.mk hr0_1
 have HC0_1 := Aside0.mk hc0_1
 clear hr0_1 hc0_1
 have HB := Aside0.mk (Below.refl w.heap.size w)
 have H : ((impl_Preferred.f k a0_0 l0_1).bind fun t427 => ((impl_InAll.f k t427).bind fun t430 => ((slices_Contains_int_int.f k t430 a1).bind fun t433 => (some t433)))) = some r := h
 clear h
 replace H := Option.bind_eq_some_iff.mp H
 obtain ⟨t427, A30, H⟩ := H
 replace H : ((impl_InAll.f k t427).bind fun t430 => ((slices_Contains_int_int.f k t430 a1).bind fun t433 => (some t433))) = some r := H
 have A3 := Aside0.mk A30
 clear A30
 replace H := Option.bind_eq_some_iff.mp H
 obtain ⟨t430, A40, H⟩ := H
 replace H : ((slices_Contains_int_int.f k t430 a1).bind fun t433 => (some t433)) = some r := H
 have A4 := Aside0.mk A40
 clear A40
 replace H := Option.bind_eq_some_iff.mp H
 obtain ⟨t433, A50, H⟩ := H
 replace H : (some t433) = some r := H
 have A5 := Aside0.mk A50
 clear A50
 obtain rfl := Option.some.inj H
 go_enter Try.func16, Try.ntmps16
 go_wp2_with (first | ((with_reducible refine Zr (N := 2) rfl ?_); refine Zu ?hg (N := 2) ?hd (cs := #[.int .i64 a0_0, .slice A0_1 l0_1.length c0_1]) (t := 27) ?hr ?_; (case hd => rfl); (case hg => rfl); (case hr => first | (go_simp; done) | (go_simp; rfl)); intro gb426 hg w6 hbox hb; have n0_ := Aside0.mk (Zf hb_ hb); have n1_ := Aside0.mk (hbox); have n2_ := Aside0.mk ((hz_ hg : w.heap.size ≤ gb426)); have n3_ := Aside0.mk ((hz_ hg : w.heap.size ≤ gb426)); clear HB; have HB := n0_; have BK426 := n1_; have GW426 := n2_; have GE426 := n3_; clear n0_ n1_ n2_ n3_; clear hb hbox hg; have hcz7_0 : w6.cell? ⟨gb426, 0, none⟩ = some (.int .i64 a0_0) := (Ze BK426.out 0).trans rfl; have hcz7_1 : w6.cell? ⟨gb426, 1, none⟩ = some (.slice A0_1 l0_1.length c0_1) := (Ze BK426.out 1).trans rfl; have hfz7_0 := Zd BK426.out 0; have hfz7_1 := Zd BK426.out 1) | ((with_reducible refine Zl (f := 19) rfl ?_); refine Zx (some 6) rfl rfl Try.func19 (by kernel_rfl) rfl #[.agg #[.int .i64 a0_0, .slice A0_1 l0_1.length c0_1]] rfl ar_ ?_; (with_reducible refine (impl_Preferred.calls k a0_0 _ _ l0_1 t427 _ ?side1 ?side2 A3.out).mono ?_); (case side1 => exact cb_ HR0_1.out); (case side2 => exact HC0_1.out); rintro e w8 ⟨v428, rfl, ho0, hb⟩; refine ⟨_, rfl, ?_⟩; have n0_ := Aside0.mk (Kd.S_lower ho0 (Zi hb_)); have n1_ := Aside0.mk (Zj (g := gb426) (o := .cells #[.int .i64 a0_0, .slice A0_1 l0_1.length c0_1] 27 (0, 0)) (bk_ BK426.out) hb); have n2_ := Aside0.mk (Zf hb_ hb); clear BK426; clear HB; have HO429 := n0_; have BK426 := n1_; have HB := n2_; clear n0_ n1_ n2_; (try clear hb); (try clear hb2); (try clear hk); (try clear hi); (try clear ho0); obtain ⟨Ao9, co9, eo9⟩ := Kd.S_slice HO429.out; subst eo9) | ((with_reducible refine Zl (f := 50) rfl ?_); refine Zx (some 7) rfl rfl Try.func50 (by kernel_rfl) rfl #[.slice Ao9 t427.length co9] rfl ar_ ?_; (with_reducible refine (impl_InAll.calls k _ _ t427 t430 _ ?side1 ?side2 A4.out).mono ?_); (case side1 => repeat (first | exact (Kd.S_reads' HO429.out).2.2 | (with_reducible refine Zv ?_ _) | (with_reducible refine Zt ?_ _) | (with_reducible refine Zy ?_))); (case side2 => exact (Kd.S_reads' HO429.out).2.1); rintro e w10 ⟨v431, rfl, ho0, hb⟩; refine ⟨_, rfl, ?_⟩; have n0_ := Aside0.mk (Kd.S_elder' (rS_ HO429.out) (Kd.R_base ho0) hb); have n1_ := Aside0.mk (Kd.R_lower ho0 (Zi hb_)); have n2_ := Aside0.mk (Zj (g := gb426) (o := .cells #[.int .i64 a0_0, .slice A0_1 l0_1.length c0_1] 27 (0, 0)) (bk_ BK426.out) hb); have n3_ := Aside0.mk (Zf hb_ hb); clear HO429; clear BK426; clear HB; have HO429 := n0_; have HO432 := n1_; have BK426 := n2_; have HB := n3_; clear n0_ n1_ n2_ n3_; (try clear hb); (try clear hb2); (try clear hk); (try clear hi); (try clear ho0); obtain ⟨Ao11, co11, eo11⟩ := Kd.R_slice HO432.out; subst eo11) | ((with_reducible refine Zl (f := 49) rfl ?_); refine Zx (some 9) rfl rfl Try.func49 (by kernel_rfl) rfl #[.slice Ao11 t430.length co11, .int .i64 a1] rfl ar_ ?_; (with_reducible refine (slices_Contains_int_int.calls k _ _ t430 a1 t433 _ ?side1 ?side2 A5.out).mono ?_); (case side1 => repeat (first | exact (Zw HO432.out).2.2 | (with_reducible refine Zv ?_ _) | (with_reducible refine Zt ?_ _) | (with_reducible refine Zy ?_))); (case side2 => exact (Zw HO432.out).2.1); rintro e w' ⟨rfl, ⟨nd, rfl⟩⟩; refine ⟨_, rfl, ?_⟩))
 go_ret
 exact ⟨er_, hb_⟩

end Go.Proofs.Ytkmhkkhlbnhaaaa.PFnExactIsCertain
