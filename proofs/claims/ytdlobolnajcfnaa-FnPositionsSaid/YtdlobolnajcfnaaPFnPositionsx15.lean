-- Written by a program of this session (hooks of mine on the print): Lean checks it.
import Derived.Test.YtdlobolnajcfnaaPFnPositionsx0
import Derived.Test.YtdlobolnajcfnaaPFnPositionsx8
import Derived.Test.YtdlobolnajcfnaaPFnPositionsx9
import Derived.Test.YtdlobolnajcfnaaPFnPositionsx10
namespace Go.Proofs.Ytdlobolnajcfnaa.PFnPositions
open Go.RowKit Go.Proofs.YtdlobolnajcfnaaW.PrintWords Go.Proofs.YtdlobolnajcfnaaW.PrintLast Go.Proofs.YtdlobolnajcfnaaW.PrintMore
attribute [local go_sem] max2_int min2_int max_two min_two max_three min_three max_four min_four   -- for this text's walks alone
set_option linter.unusedVariables false
set_option linter.unusedSimpArgs false
set_option maxHeartbeats 8000000
set_option maxRecDepth 100000

-- NOT PRINTED: function 98 (slices_IndexFunc_int_int)

-- NOT PRINTED: function 70 (slices_ContainsFunc_int_int)

/-! ### impl_isWithin: function 72 -/
def impl_isWithin.l0 : Nat → List Int → List Int → Int → Int → Option (Bool)
 | 0, _, _, _, _ => none
 | k + 1, x1, x7, x8, x9 => if x9 < x8 then (if 0 ≤ x9 then (if x9 < (x7.length : Int) then ((slices_Contains_int_int.f k x1 (rd x7 x9)).bind fun t552 => (if t552 = true then (impl_isWithin.l0 k x1 x7 x8 (wrap64 (x9 + 1))) else (some false))) else (none)) else (none)) else (some true)
def impl_isWithin.f (k : Nat) (l0 : List Int) (l1 : List Int) : Option (Bool) := impl_isWithin.l0 k l1 l0 (l0.length : Int) 0
theorem impl_isWithin.mono_l : ∀ k, (∀ y0 y1 y2 y3, LeO (impl_isWithin.l0 k y0 y1 y2 y3) (impl_isWithin.l0 (k + 1) y0 y1 y2 y3))
 | 0 => fun _ _ _ _ r h => by simp [impl_isWithin.l0] at h
 | k + 1 => by
  have ih0 := impl_isWithin.mono_l k
  ·intro y0 y1 y2 y3
   unfold impl_isWithin.l0
   repeat' with_reducible first | apply ih0 | apply slices_Contains_int_int.mono | apply Zy | apply Zg | refine Zl ?_ ?_ | refine Zh ?_ (fun _ => ?_)
theorem impl_isWithin.mono : ∀ a0 a1 k, LeO (impl_isWithin.f k a0 a1) (impl_isWithin.f (k + 1) a0 a1) := by
 intro a0 a1 k
 have ih0 := impl_isWithin.mono_l k
 unfold impl_isWithin.f
 repeat' with_reducible first | apply ih0 | apply slices_Contains_int_int.mono | apply Zy | apply Zg | refine Zl ?_ ?_ | refine Zh ?_ (fun _ => ?_)
theorem impl_isWithin.calls (k : Nat) (A0 : Option Addr) (c0 : Nat) (l0 : List Int) (A1 : Option Addr) (c1 : Nat) (l1 : List Int) (r : Bool) (w : World) (hr0 : Kd.C (Kd.int .i64) w A0 l0.length l0) (hc0 : l0.length ≤ c0) (hr1 : Kd.C (Kd.int .i64) w A1 l1.length l1) (hc1 : l1.length ≤ c1) (h : impl_isWithin.f k l0 l1 = some r) :
  Calls Try.prog 72 #[.slice A0 l0.length c0, .slice A1 l1.length c1] w fun e w' => e = .returned (.bool r) ∧ Drawn0 w w' := by
 have HR0 := Aside0.mk hr0
 have HC0 := Aside0.mk hc0
 clear hr0 hc0
 have HR1 := Aside0.mk hr1
 have HC1 := Aside0.mk hc1
 clear hr1 hc1
 have H := h
 unfold impl_isWithin.f at H
 clear h
 have H' := Aside0.mk H
 clear H
 go_enter Try.func72, Try.ntmps72
 go_wp2
 go_loopg [9] k (fun kq v9 w' => ∃ (x9_1 : Int), v9 = .int .i64 x9_1 ∧ Aside0 (impl_isWithin.l0 kq l1 l0 (l0.length : Int) x9_1 = some r) ∧ Aside0 (kq ≤ k) ∧ Drawn0 w w')
 case atStart => exact ⟨(0), sm_, H', ⟨Nat.le_refl _⟩, dr_⟩
 case round =>
  clear H'
  try clear c1
  try clear p2
  obtain ⟨x9_1, rfl, HA, HK1, ⟨m1, rfl⟩⟩ := hrel
  cases gk with
  | zero => exact absurd HA.out (by simp [impl_isWithin.l0])
  | succ k1 =>
   have H := HA.out
   clear HA
   simp only [impl_isWithin.l0] at H
   by_cases c3 : x9_1 < (l0.length : Int)
   rotate_left
   ·rw [if_neg c3] at H
    have c3b0 : decide (x9_1 < (l0.length : Int)) = false := decide_eq_false c3
    clear c3
    obtain rfl := Option.some.inj H
    go_wp2
    go_ret
    exact ⟨sm_, dr_⟩
   rw [if_pos c3] at H
   have c3b0 : decide (x9_1 < (l0.length : Int)) = true := decide_eq_true c3
   clear c3
   by_cases c4 : 0 ≤ x9_1
   rotate_left
   ·rw [if_neg c4] at H
    exact absurd H (by simp)
   rw [if_pos c4] at H
   have c4b0 : decide (0 ≤ x9_1) = true := decide_eq_true c4
   clear c4
   by_cases c5 : x9_1 < (l0.length : Int)
   rotate_left
   ·rw [if_neg c5] at H
    exact absurd H (by simp)
   rw [if_pos c5] at H
   have c5b0 : decide (x9_1 < (l0.length : Int)) = true := decide_eq_true c5
   clear c5
   obtain ⟨t552, A6, H⟩ := bd_ H
   try dsimp only at H
   by_cases c7 : t552 = true
   rotate_left
   ·replace c7 := Bool.eq_false_iff.mpr c7
    subst c7
    rw [if_neg (show ¬ (false = true) by decide)] at H
    try dsimp only at H
    obtain rfl := Option.some.inj H
    have p551 : 0 ≤ (x9_1 : Int) := of_decide_eq_true as_
    have q551 : x9_1 < (l0.length : Int) := of_decide_eq_true as_
    obtain ⟨ad551, e551, hx551_0⟩ := Zo HR0.out x9_1 p551 q551
    cases e551
    replace p551 := eq_true p551
    replace q551 := eq_true q551
    go_wp2_with (first | ((with_reducible refine Zf (f := 80) rfl ?_); refine ZC (some 15) rfl rfl Try.func80 (by kernel_rfl) rfl #[.slice A1 l1.length c1, .int .i64 (rd l0 x9_1)] rfl ar_ ?_; (with_reducible refine (slices_Contains_int_int.calls k1 _ _ l1 (rd l0 x9_1) false _ ?side1 ?side2 A6.out).mono ?_); (case side1 => exact sA_ HR1.out); (case side2 => exact HC1.out); rintro e w' ⟨rfl, ⟨nd, rfl⟩⟩; refine ⟨_, rfl, ?_⟩))
    go_ret
    exact ⟨sm_, dr_⟩
   subst c7
   rw [if_pos rfl] at H
   try dsimp only at H
   have H' := Aside0.mk H
   clear H
   have p551 : 0 ≤ (x9_1 : Int) := of_decide_eq_true as_
   have q551 : x9_1 < (l0.length : Int) := of_decide_eq_true as_
   obtain ⟨ad551, e551, hx551_0⟩ := Zo HR0.out x9_1 p551 q551
   cases e551
   replace p551 := eq_true p551
   replace q551 := eq_true q551
   go_wp2_with (first | ((with_reducible refine Zf (f := 80) rfl ?_); refine ZC (some 15) rfl rfl Try.func80 (by kernel_rfl) rfl #[.slice A1 l1.length c1, .int .i64 (rd l0 x9_1)] rfl ar_ ?_; (with_reducible refine (slices_Contains_int_int.calls k1 _ _ l1 (rd l0 x9_1) true _ ?side1 ?side2 A6.out).mono ?_); (case side1 => exact sA_ HR1.out); (case side2 => exact HC1.out); rintro e w' ⟨rfl, ⟨nd, rfl⟩⟩; refine ⟨_, rfl, ?_⟩))
   go_roundg k1
   case measure => have := HK1.out; omega
   case rel => exact ⟨(wrap64 (x9_1 + 1)), sm_, H', ⟨by have := HK1.out; omega⟩, dr_⟩

/-! ### impl_Preferred: function 22 -/
/-- Whether some row is longer than the one in hand and holds all of it. -/
def prefAny.l0 : Nat → List (List Int) → List Int → Int → Option Int
  | 0, _, _, _ => none
  | k + 1, x0, x1, x8 => if x8 < (x0.length : Int) then (if 0 ≤ x8 then (if ((rd_L2 x0 x8).length : Int) > (x1.length : Int) then ((impl_isWithin.f k x1 (rd_L2 x0 x8)).bind fun t => (if t = true then (some x8) else (prefAny.l0 k x0 x1 (wrap64 (x8 + 1))))) else (prefAny.l0 k x0 x1 (wrap64 (x8 + 1)))) else (none)) else (some (-1))
theorem prefAny.mono_l : ∀ k, (∀ y0 y1 y2, LeO (prefAny.l0 k y0 y1 y2) (prefAny.l0 (k + 1) y0 y1 y2))
  | 0 => fun _ _ _ => by (unfold prefAny.l0; exact Zg _)
  | k + 1 => by
    have ih0 := prefAny.mono_l k
    · intro y0 y1 y2
      unfold prefAny.l0
      repeat' with_reducible first | apply ih0 | apply impl_isWithin.mono | apply Zy | apply Zg | refine Zl ?_ ?_ | refine Zh ?_ (fun _ => ?_)
def impl_Preferred.l0 : Nat → List (List Int) → List (List Int) → Int → Option (List (List Int))
  | 0, _, _, _ => none
  | k + 1, x4, x3, x12 => if x12 < (x3.length : Int) then (if 0 ≤ x12 then ((prefAny.l0 k x3 (rd_L2 x3 x12) 0).bind fun t => (if 0 ≤ t then (impl_Preferred.l0 k x4 x3 (wrap64 (x12 + 1))) else (if x4.length < 5864062014805 then (impl_Preferred.l0 k (x4 ++ [rd_L2 x3 x12]) x3 (wrap64 (x12 + 1))) else (none)))) else (none)) else (some x4)
def impl_Preferred.f (k : Nat) (a0_0 : Int) (l0_1 : List (List Int)) : Option (List (List Int)) := (impl_AllComplete.f k a0_0 l0_1).bind fun t => impl_Preferred.l0 k ([] : List (List Int)) t 0
theorem impl_Preferred.mono_l : ∀ k, (∀ y0 y1 y2, LeO (impl_Preferred.l0 k y0 y1 y2) (impl_Preferred.l0 (k + 1) y0 y1 y2))
  | 0 => fun _ _ _ => by (unfold impl_Preferred.l0; exact Zg _)
  | k + 1 => by
    have ih0 := impl_Preferred.mono_l k
    · intro y0 y1 y2
      unfold impl_Preferred.l0
      repeat' with_reducible first | apply ih0 | apply prefAny.mono_l | apply Zy | apply Zg | refine Zl ?_ ?_ | refine Zh ?_ (fun _ => ?_)
theorem impl_Preferred.mono : ∀ a0 a1 k, LeO (impl_Preferred.f k a0 a1) (impl_Preferred.f (k + 1) a0 a1) := by
  intro a0 a1 k
  unfold impl_Preferred.f
  exact Zh (impl_AllComplete.mono _ _ _) (fun _ => impl_Preferred.mono_l _ _ _ _)
/-- The function value at a row that is longer than the boxed one. -/
theorem prefAny.long (k : Nat) (A0 : Option Addr) (c0 : Nat) (l0 : List Int) (A1 : Option Addr) (c1 : Nat) (l1 : List Int) (B : Nat) (r : Bool) (w : World) (hr0 : Kd.C (Kd.int .i64) w A0 l0.length l0) (hc0 : l0.length ≤ c0) (hr1 : Kd.C (Kd.int .i64) w A1 l1.length l1) (hc1 : l1.length ≤ c1) (hcell : w.cell? ⟨B, 0, none⟩ = some (.slice A1 l1.length c1)) (hgt : (l0.length : Int) > (l1.length : Int)) (h : impl_isWithin.f k l1 l0 = some r) :
    Calls Try.prog 71 #[.slice A0 l0.length c0, .pointer (some ⟨B, 0, none⟩)] w fun e w' => e = .returned (.bool r) ∧ Drawn0 w w' := by
  have hcon := fun W (h1 : Kd.C (Kd.int .i64) W A1 l1.length l1) (h0 : Kd.C (Kd.int .i64) W A0 l0.length l0) => impl_isWithin.calls k A1 c1 l1 A0 c0 l0 r W h1 hc1 h0 hc0 h
  have hgtn : l1.length < l0.length := by omega
  have hgtb := decide_eq_true hgt
  have hgtb2 := decide_eq_true hgtn
  have hgt2 := eq_true hgt
  replace hgtn := eq_true hgtn
  clear hgt
  go_enter Try.func71, Try.ntmps71
  go_wp2_with (go_at_call 72; refine (hcon _ (by first | exact hr1 | exact Zu hr1 | exact Zp hr1 _) (by first | exact hr0 | exact Zu hr0 | exact Zp hr0 _)).mono ?_; rintro e w' ⟨rfl, ⟨nd, rfl⟩⟩)
  go_ret
  exact ⟨rfl, dr_⟩
theorem prefAny.short (A0 : Option Addr) (c0 : Nat) (l0 : List Int) (A1 : Option Addr) (c1 : Nat) (l1 : List Int) (B : Nat) (w : World) (hcell : w.cell? ⟨B, 0, none⟩ = some (.slice A1 l1.length c1)) (hgt : ¬ (l0.length : Int) > (l1.length : Int)) :
    Calls Try.prog 71 #[.slice A0 l0.length c0, .pointer (some ⟨B, 0, none⟩)] w fun e w' => e = .returned (.bool false) ∧ Drawn0 w w' := by
  have hgtn : ¬ l1.length < l0.length := by omega
  have hgtb := decide_eq_false hgt
  have hgtb2 := decide_eq_false hgtn
  have hgt2 := eq_false hgt
  replace hgtn := eq_false hgtn
  clear hgt
  go_enter Try.func71, Try.ntmps71
  go_wp2
  go_ret
  exact ⟨rfl, dr_⟩
theorem prefAny.finds (k : Nat) (A0 : Option Addr) (c0 : Nat) (l0 : List (List Int)) (A1 : Option Addr) (c1 : Nat) (l1 : List Int) (B : Nat) (r : Int) (w : World) (hr0 : Kd.C (Kd.slice 3 (Kd.int .i64)) w A0 l0.length l0) (hc0 : l0.length ≤ c0) (hr1 : Kd.C (Kd.int .i64) w A1 l1.length l1) (hc1 : l1.length ≤ c1) (hB : B < w.heap.size) (hcell : w.cell? ⟨B, 0, none⟩ = some (.slice A1 l1.length c1)) (h : prefAny.l0 k l0 l1 0 = some r) :
    Calls Try.prog 98 #[.slice A0 l0.length c0, .func (.func 71) #[] #[.pointer (some ⟨B, 0, none⟩)]] w fun e w' => e = .returned (.int .i64 r) ∧ Drawn0 w w' := by
  have eg : ∀ args w, (callFunc 71 args).run Try.prog w = .ok (.enter 71 args) w := enters_of Try.func71 (by kernel_rfl) rfl
  have H' := Aside0.mk h
  have HR0 := Aside0.mk hr0
  have HR1 := Aside0.mk hr1
  have HCELL := Aside0.mk hcell
  have HBB := Aside0.mk hB
  clear h hr0 hr1 hcell hB
  go_enter Try.func98, Try.ntmps98
  go_wp2
  go_loopg [5, 8] k (fun kq _ v8 w' => ∃ (x8_1 : Int), v8 = .int .i64 x8_1 ∧ Aside0 (prefAny.l0 kq l0 l1 x8_1 = some r) ∧ Aside0 (kq ≤ k) ∧ Drawn0 w w')
  case atStart => exact ⟨0, rfl, H', ⟨Nat.le_refl _⟩, dr_⟩
  case round =>
    clear H'
    obtain ⟨x8_1, rfl, HA, HK1, ⟨m1, rfl⟩⟩ := hrel
    cases gk with
    | zero => exact absurd HA.out (by simp [prefAny.l0])
    | succ k1 =>
      have H := HA.out
      clear HA
      simp only [prefAny.l0] at H
      by_cases c3 : x8_1 < (l0.length : Int)
      rotate_left
      ·rw [if_neg c3] at H
       have c3b0 : decide (x8_1 < (l0.length : Int)) = false := decide_eq_false c3
       clear c3
       obtain rfl := Option.some.inj H
       go_wp2
       go_ret
       exact ⟨rfl, dr_⟩
      rw [if_pos c3] at H
      have c3b0 : decide (x8_1 < (l0.length : Int)) = true := decide_eq_true c3
      by_cases c4 : 0 ≤ x8_1
      rotate_left
      ·rw [if_neg c4] at H
       exact absurd H (by simp)
      rw [if_pos c4] at H
      have c4b0 : decide (0 ≤ x8_1) = true := decide_eq_true c4
      have p101 : 0 ≤ (x8_1 : Int) := c4
      have q101 : x8_1 < (l0.length : Int) := c3
      clear c3 c4
      obtain ⟨ad101, A101_0, c101_0, e101, hx101_0, hl101_0, hi101_0⟩ := at_L2 HR0.out x8_1 p101 q101
      cases e101
      obtain ⟨t102, hcall, H⟩ : ∃ t102 : Bool, (Calls Try.prog 71 (#[.slice A101_0 (rd_L2 l0 x8_1).length c101_0] ++ #[.pointer (some ⟨B, 0, none⟩)]) (w.drewN m1) fun e w' => e = .returned (.bool t102) ∧ Drawn0 (w.drewN m1) w') ∧ (if t102 = true then (some x8_1) else (prefAny.l0 k1 l0 l1 (wrap64 (x8_1 + 1)))) = some r := by
        have hce := (((Zm (Below.refl w.heap.size w) m1).cell (p := ⟨B, 0, none⟩) HBB.out).trans HCELL.out)
        by_cases c5 : ((rd_L2 l0 x8_1).length : Int) > (l1.length : Int)
        rotate_left
        ·rw [if_neg c5] at H
         exact ⟨false, prefAny.short A101_0 c101_0 (rd_L2 l0 x8_1) A1 c1 l1 B (w.drewN m1) hce c5, by rw [if_neg (by decide)]; exact H⟩
        rw [if_pos c5] at H
        obtain ⟨t, hw, H⟩ := Option.bind_eq_some_iff.mp H
        exact ⟨t, prefAny.long k1 A101_0 c101_0 (rd_L2 l0 x8_1) A1 c1 l1 B t (w.drewN m1) (Zp hi101_0 _) hl101_0 (Zp HR1.out _) hc1 hce c5 hw, H⟩
      clear hi101_0 hl101_0
      replace p101 := eq_true p101
      replace q101 := eq_true q101
      cases t102 with
      | true =>
        rw [if_pos rfl] at H
        obtain rfl := Option.some.inj H
        go_wp2_with (go_at_call 71; refine hcall.mono ?_; rintro e w' ⟨rfl, ⟨nd, rfl⟩⟩)
        go_ret
        exact ⟨rfl, dr_⟩
      | false =>
        rw [if_neg (by decide)] at H
        have H' := Aside0.mk H
        clear H
        go_wp2_with (go_at_call 71; refine hcall.mono ?_; rintro e w' ⟨rfl, ⟨nd, rfl⟩⟩)
        go_roundg k1
        case measure => have := HK1.out; omega
        case rel => exact ⟨(wrap64 (x8_1 + 1)), sm_, H', ⟨by have := HK1.out; omega⟩, dr_⟩
theorem prefAny.calls (k : Nat) (A0 : Option Addr) (c0 : Nat) (l0 : List (List Int)) (A1 : Option Addr) (c1 : Nat) (l1 : List Int) (B : Nat) (r : Int) (w : World) (hr0 : Kd.C (Kd.slice 3 (Kd.int .i64)) w A0 l0.length l0) (hc0 : l0.length ≤ c0) (hr1 : Kd.C (Kd.int .i64) w A1 l1.length l1) (hc1 : l1.length ≤ c1) (hB : B < w.heap.size) (hcell : w.cell? ⟨B, 0, none⟩ = some (.slice A1 l1.length c1)) (h : prefAny.l0 k l0 l1 0 = some r) :
    Calls Try.prog 70 #[.slice A0 l0.length c0, .func (.func 71) #[] #[.pointer (some ⟨B, 0, none⟩)]] w fun e w' => e = .returned (.bool (decide (0 ≤ r))) ∧ Drawn0 w w' := by
  have hcon := fun m => prefAny.finds k A0 c0 l0 A1 c1 l1 B r (w.drewN m) (Zp hr0 _) hc0 (Zp hr1 _) hc1 (by simpa [World.drewN] using hB) (((Zm (Below.refl w.heap.size w) m).cell (p := ⟨B, 0, none⟩) hB).trans hcell) h
  have hcon0 := prefAny.finds k A0 c0 l0 A1 c1 l1 B r w hr0 hc0 hr1 hc1 hB hcell h
  clear hr0 hr1 h hcell
  have hge : decide (r ≥ 0) = decide (0 ≤ r) := rfl
  go_enter Try.func70, Try.ntmps70
  go_wp2_with (go_at_call 98; first | (refine hcon0.mono ?_; rintro e w' ⟨rfl, ⟨nd, rfl⟩⟩) | (refine (hcon _).mono ?_; rintro e w' ⟨rfl, ⟨nd, rfl⟩⟩))
  go_ret
  exact ⟨by first | rfl | (simp; done), dr_⟩
section
variable {E lo hi base : Nat} {w2 w' W W' : World} {V v : Value} {t : List (List Int)} {f : Nat → Nat} {xs : List (List Value)} {ok : Nat → Prop}
theorem raw_keep (h : (Kd.raw 1).R E W base ok v xs) (hk : ∀ k, v.ownBlock = some k → W'.heap[k]? = W.heap[k]?) : (Kd.raw 1).R E W' base ok v xs := by
  obtain ⟨h0, inner, ho, hr⟩ := h
  exact ⟨h0, inner, own_move ho hk, hr⟩
theorem seg_one {β : Type} (l : List β) (j : Nat) (z : β) (h : l[j]? = some z) : (l.drop (j * 1)).take 1 = [z] := by
  obtain ⟨hj, e⟩ := List.getElem?_eq_some_iff.1 h
  rw [Nat.mul_one, List.drop_eq_getElem_cons hj, e, List.take_succ_cons, List.take_zero]
/-- Rows picked out of a row whose rows lie apart, each once, lie apart. -/
theorem S_pick (hd : Nat → Value) (J : List Nat) (hM : ∀ j, j ∈ J → (Kd.slice 3 (Kd.int .i64)).M w2 lo (fun k => (lo ≤ k ∧ k < hi) ∧ f k = j) (t.getD j []) [hd j]) (hfr : ∀ k, lo ≤ k → k < hi → w'.heap[k]? = w2.heap[k]?) (hb : base ≤ lo) (hJn : J.Nodup) (hR : (Kd.raw 1).R E w' base (fun k => ¬ (lo ≤ k ∧ k < hi)) v (J.map fun j => [hd j])) : Kd.S (Kd.slice 3 (Kd.int .i64)) E w' base (fun _ => True) v (J.map fun j => t.getD j []) := by
  obtain ⟨h0, inner, ho, hr⟩ := hR
  refine ⟨fun k => J.idxOf (f k), fun _ _ => trivial, inner, ?_, ?_, ?_⟩
  ·have := ho
   rw [List.length_map] at this
   rw [List.length_zipIdx, List.length_map]
   exact this
  ·have := hr.1
   rw [List.length_map] at this
   rw [List.length_zipIdx, List.length_map]
   exact this
  intro i p hp
  rw [List.getElem?_zipIdx, List.getElem?_map] at hp
  obtain ⟨j, hj⟩ : ∃ j, J[i]? = some j := by
    cases hj : J[i]? with
    | none => rw [hj] at hp; simp at hp
    | some j => exact ⟨j, rfl⟩
  rw [hj] at hp
  simp only [Option.map_some, Option.some.injEq] at hp
  subst hp
  have hseg := (hr.2 i [hd j] (by rw [List.getElem?_map, hj]; rfl)).1
  have hjm := List.mem_of_getElem? hj
  have h1 := (Kd.slice 3 (Kd.int .i64)).M_lower hb ((Kd.slice 3 (Kd.int .i64)).M_move (w1 := w') (fun k hk => hfr k hk.1.1 hk.1.2) (hM j hjm))
  have hidx : J.idxOf j = i := by
    obtain ⟨hlt, e⟩ := List.getElem?_eq_some_iff.1 hj
    rw [← e]
    exact hJn.idxOf_getElem i hlt
  show (Kd.slice 3 (Kd.int .i64)).M w' base (fun k => (True ∧ some k ≠ v.ownBlock) ∧ J.idxOf (f k) = 0 + i) (t.getD j []) ((inner.drop (i * 1)).take 1)
  rw [show (inner.drop (i * 1)).take 1 = [hd j] from hseg]
  refine (Kd.slice 3 (Kd.int .i64)).M_mono (fun k hk => ⟨⟨trivial, fun he => h0 k he.symm hk.1⟩, ?_⟩) h1
  show J.idxOf (f k) = 0 + i
  rw [hk.2, hidx, Nat.zero_add]
end
theorem impl_Preferred.calls (k : Nat) (a0_0 : Int) (A0_1 : Option Addr) (c0_1 : Nat) (l0_1 : List (List Int)) (r : List (List Int)) (w : World) (hr0_1 : Kd.C (Kd.slice 3 (Kd.int .i64)) w A0_1 l0_1.length l0_1) (hc0_1 : l0_1.length ≤ c0_1) (h : impl_Preferred.f k a0_0 l0_1 = some r) :
    Calls Try.prog 22 #[.agg #[.int .i64 a0_0, .slice A0_1 l0_1.length c0_1]] w fun e w' => ∃ v0_ : Value, e = .returned (v0_) ∧ Kd.S (Kd.slice 3 (Kd.int .i64)) 31 w' w.heap.size (fun _ => True) v0_ r ∧ Below w.heap.size w w' := by
  have hu27 := Try.underlying27
  have HR0_1 := Aside0.mk hr0_1
  have HC0_1 := Aside0.mk hc0_1
  clear hr0_1 hc0_1
  have HB := Aside0.mk (Below.refl w.heap.size w)
  have H := h
  unfold impl_Preferred.f at H
  clear h
  obtain ⟨t, A20, H⟩ := Option.bind_eq_some_iff.mp H
  have A2 := Aside0.mk A20
  clear A20
  have H' := Aside0.mk H
  clear H
  go_enter Try.func22, Try.ntmps22
  go_wp2_with (first
    | ((with_reducible refine Zz (N := 1) rfl ?_); refine ZI ?hg (N := 1) ?hd (cs := #[.int .i64 a0_0, .slice A0_1 l0_1.length c0_1]) (t := 27) ?hr ?_; (case hd => rfl); (case hg => rfl); (case hr => first | (go_simp; done) | (go_simp; rfl)); intro gbG hg w3 hbox hb; have n0_ := Aside0.mk (Zc HB.out hb); have BKG := Aside0.mk hbox; clear HB; have HB := n0_; clear n0_ hb hbox hg; have hcz6_0 : w3.cell? ⟨gbG, 0, none⟩ = some (.int .i64 a0_0) := (Za BKG.out 0).trans rfl; have hcz6_1 : w3.cell? ⟨gbG, 1, none⟩ = some (.slice A0_1 l0_1.length c0_1) := (Za BKG.out 1).trans rfl)
    | ((with_reducible refine Zf (f := 20) rfl ?_); refine ZC (some 8) rfl rfl Try.func20 (by kernel_rfl) rfl #[.agg #[.int .i64 a0_0, .slice A0_1 l0_1.length c0_1]] rfl (by (try simp only [List.map_toArray, List.map_cons, List.map_nil]); first | done | rfl) ?_; (with_reducible refine (impl_AllComplete.calls k a0_0 _ _ l0_1 t _ ?side1 ?side2 A2.out).mono ?_); (case side1 => exact cb_ HR0_1.out); (case side2 => exact HC0_1.out); rintro e w7 ⟨vA, rfl, hoA, hbA⟩; refine ⟨_, rfl, ?_⟩; obtain ⟨lo, HLO, HSX⟩ : ∃ lo, Aside0 (w.heap.size ≤ lo) ∧ Aside0 (Kd.S (Kd.slice 3 (Kd.int .i64)) 31 w7 lo (fun _ => True) vA t) := ⟨_, ⟨Ze HB.out⟩, ⟨hoA⟩⟩; have n0_ := Aside0.mk (Zc HB.out hbA); clear HB; have HB := n0_; clear n0_ hbA hoA; obtain ⟨Ao, co, eo⟩ := Kd.S_slice HSX.out; subst eo)
    | ((with_reducible refine Zz (N := 9) rfl ?_); refine Kd.R_lit (Kd.raw 1) _ 31 ?hg (N := 9) ?hd (xs := ([] : List (List Value))) (inner := []) (ok := fun _ => True) (okp := fun _ => True) ?hr ?hp (fun _ hk => hk) trivial (Below.refl _ _) (Nat.le_refl _) (by simp) ?_; (case hd => rfl); (case hg => rfl); (case hr => first | (go_simp; done) | (go_simp; rfl)); (case hp => exact (Reps.none _ _)); intro v9 w9 ho9 hb9 hg9 hnew9))
  obtain ⟨f, hS0, inner, hSo, hSr⟩ := Kd.S_bound HSX.out
  rw [List.length_zipIdx] at hSo
  rw [show (Kd.tag f (Kd.slice 3 (Kd.int .i64))).sz = 1 from rfl] at hSo hSr
  have hil : inner.length = t.length := by have := hSo.1; omega
  obtain ⟨hi, hhi⟩ : ∃ n, n = w7.heap.size := ⟨_, rfl⟩
  obtain ⟨hd, hhd⟩ : ∃ h : Nat → Value, h = fun j => inner.getD j (.int .i64 0) := ⟨_, rfl⟩
  have HM : Aside0 (∀ j, j < t.length → (Kd.slice 3 (Kd.int .i64)).M w7 lo (fun k => (lo ≤ k ∧ k < hi) ∧ f k = j) (t.getD j []) [hd j]) := ⟨fun j hj => by
    have h1 := hSr.2 j _ (Kd.zip_at (show t[j]? = some (t.getD j []) by rw [List.getD_eq_getElem?_getD, List.getElem?_eq_getElem hj]; rfl))
    rw [seg_one inner j (hd j) (by rw [show hd j = inner.getD j (.int .i64 0) by rw [hhd], List.getD_eq_getElem?_getD, List.getElem?_eq_getElem (by omega)]; rfl)] at h1
    exact (Kd.slice 3 (Kd.int .i64)).M_mono (fun k hk => ⟨⟨hk.1.1.2.1, by rw [hhi]; exact hk.1.1.2.2.1⟩, hk.2⟩) h1⟩
  have HCELL : Aside0 (∀ j, j < t.length → ∃ g, Ao = some ⟨g, 0, none⟩ ∧ (lo ≤ g ∧ g < hi) ∧ w7.cell? ⟨g, 0 + j, none⟩ = some (hd j)) := ⟨fun j hj => by
    rcases hSo.2 with ⟨_, hz⟩ | ⟨g, cap, cur, he, hbg, hh, hnc, hcm, hcs, ht⟩
    · omega
    · injection he with e1 e2 e3
      refine ⟨g, e1, ⟨hbg, by rw [hhi]; exact (Array.getElem?_eq_some_iff.1 hh).1⟩, ?_⟩
      rw [Nat.mul_one] at ht
      have h1 : (cur.toList.take t.length)[j]? = some (hd j) := by rw [ht, show hd j = inner.getD j (.int .i64 0) by rw [hhd], List.getD_eq_getElem?_getD, List.getElem?_eq_getElem (by omega)]; rfl
      rw [List.getElem?_take_of_lt hj] at h1
      simp only [World.cell?, hh, Nat.zero_add]
      simp only [Option.isSome_none, Bool.false_eq_true, if_false]
      rw [← Array.getElem?_toList, h1]⟩
  have HO9 : Aside0 ((Kd.raw 1).R 31 w9 w.heap.size (fun k => w7.heap.size ≤ k) v9 (([] : List Nat).map fun j => [hd j])) := ⟨Kd.R_lower (ZK (Kd.R_bound ho9) (fun k hk => hk.2.1)) (Ze HB.out)⟩
  have HF9 := Aside0.mk hb9
  have HC7 := Aside0.mk (Kd.S_reads' HSX.out)
  have HB9 := Aside0.mk (Zc HB.out hb9)
  clear HB ho9 hb9 hg9 hnew9 hSo hSr hS0 hhd hil HSX
  go_loopg [4, 12] k (fun kq v4 v12 w' => ∃ (J : List Nat) (x12 : Int), v12 = .int .i64 x12 ∧ Aside0 (impl_Preferred.l0 kq (J.map fun j => t.getD j []) t x12 = some r) ∧ Aside0 (kq ≤ k) ∧ Aside0 ((Kd.raw 1).R 31 w' w.heap.size (fun k => w7.heap.size ≤ k) v4 (J.map fun j => [hd j])) ∧ Aside0 (Below w7.heap.size w7 w') ∧ Aside0 (J.Nodup ∧ (∀ j ∈ J, (j : Int) < x12 ∧ j < t.length)) ∧ Aside0 (Below w.heap.size w w'))
  case atStart => exact ⟨[], 0, rfl, H', ⟨Nat.le_refl _⟩, HO9, HF9, ⟨List.nodup_nil, fun j hj => absurd hj (by simp)⟩, HB9⟩
  case round =>
    clear H' HO9 HF9 HB9
    obtain ⟨J, x12, rfl, HA, HK1, HO, HF, HJ, HB⟩ := hrel
    cases gk with
    | zero => exact absurd HA.out (by simp [impl_Preferred.l0])
    | succ k1 =>
      have H := HA.out
      clear HA
      simp only [impl_Preferred.l0] at H
      by_cases c3 : x12 < (t.length : Int)
      rotate_left
      ·rw [if_neg c3] at H
       have c3b0 : decide (x12 < (t.length : Int)) = false := decide_eq_false c3
       clear c3
       obtain rfl := Option.some.inj H
       go_wp2
       go_ret
       exact ⟨_, rfl, S_pick hd J (fun j hj => HM.out j (HJ.out.2 j hj).2) (fun k _ h2 => HF.out.block k (by rw [← hhi]; exact h2)) HLO.out HJ.out.1 (ZK (by first | exact HO.out | exact Kd.R_drewN HO.out _ | exact Kd.R_drew HO.out) (fun k hk hc => by have := hc.2; omega)), by first | exact HB.out | exact Zm HB.out _ | exact Zq HB.out⟩
      rw [if_pos c3] at H
      have c3b0 : decide (x12 < (t.length : Int)) = true := decide_eq_true c3
      by_cases c4 : 0 ≤ x12
      rotate_left
      ·rw [if_neg c4] at H
       exact absurd H (by simp)
      rw [if_pos c4] at H
      have c4b0 : decide (0 ≤ x12) = true := decide_eq_true c4
      obtain ⟨tq, A60, H⟩ := Option.bind_eq_some_iff.mp H
      obtain ⟨row, hrow⟩ : ∃ row : List Int, row = t.getD x12.toNat [] := ⟨_, rfl⟩
      have A6 : Aside0 (prefAny.l0 k1 t row 0 = some tq) := ⟨by rw [hrow]; exact A60⟩
      clear A60
      have hx : x12.toNat < t.length := by omega
      obtain ⟨g, hAo, hgi, hcl7⟩ := HCELL.out x12.toNat hx
      obtain ⟨ad, had⟩ : ∃ ad, ad = (⟨g, 0, none⟩ : Addr) := ⟨_, rfl⟩
      rw [← had] at hAo
      have hMi := HM.out x12.toNat hx
      rw [← hrow] at hMi
      obtain ⟨Ai, ci, hei, hli, hCi⟩ := (Kd.slice 3 (Kd.int .i64)).K_of_M ((Kd.slice 3 (Kd.int .i64)).M_move (w1 := wr) (fun k hk => HF.out.block k (by rw [← hhi]; exact hk.1.2)) hMi)
      have hei : hd x12.toNat = .slice Ai row.length ci := by injection hei
      have hx15 : wr.cell? (ad.add x12.toNat) = some (.slice Ai row.length ci) := by
        rw [← hei, ← hcl7, had, add_at]
        unfold World.cell?
        rw [HF.out.block g (by rw [← hhi]; exact hgi.2)]
      have p101 : 0 ≤ (x12 : Int) := c4
      have q101 : x12 < (t.length : Int) := c3
      clear c3 c4
      replace p101 := eq_true p101
      replace q101 := eq_true q101
      subst hAo
      obtain ⟨_, hco, hC7⟩ := HC7.out
      have hlen : t.length ≤ 9223372036854775807 := hC7.2.1
      have hCw := Kd.C_below hC7 HF.out
      have hw1 : wrap64 (x12 + 1) = x12 + 1 := by
        have := of_decide_eq_true c3b0
        have := of_decide_eq_true c4b0
        unfold wrap64
        omega
      have HALL := Aside0.mk hCw
      have HROW := Aside0.mk hCi
      have HCO := Aside0.mk hco
      have HLI := Aside0.mk hli
      have HEI := Aside0.mk hei
      have HROWE := Aside0.mk hrow
      clear hrow hx
      clear hC7 hCw hCi hco hli hei hMi hcl7 had
      have HCALL : ∀ (w5 : World) (gA m : Nat), w5.heap[gA]? = some (.cells #[.slice none 0 0] 31 (0, 0)) → wr.heap.size ≤ gA → Below wr.heap.size wr w5 → Calls Try.prog 70 #[.slice (some ad) t.length co, .func (.func 71) #[] #[.pointer (some ⟨gA, 0, none⟩)]] ((w5.setCell ⟨gA, 0, none⟩ (.slice Ai row.length ci)).drewN m) fun e w' => e = .returned (.bool (decide (0 ≤ tq))) ∧ Below wr.heap.size wr w' ∧ w'.cell? ⟨gA, 0, none⟩ = some (.slice Ai row.length ci) := by
        intro w5 gA m hbox hgA hb5
        have hput := blk_put hbox 0 (.slice Ai row.length ci) rfl
        have hbs := Zr (j := 0) (v := .slice Ai row.length ci) hb5 hgA
        have hbm := Zm hbs m
        refine (prefAny.calls k1 (some ad) co t Ai ci row gA tq _ (Kd.C_below HALL.out hbm) HCO.out (Kd.C_below HROW.out hbm) HLI.out (blk_lt hput) ((Za hput 0).trans rfl) A6.out).mono ?_
        rintro e w' ⟨rfl, nd, rfl⟩
        exact ⟨rfl, Zm hbm nd, (Za hput 0).trans rfl⟩
      by_cases c6 : 0 ≤ tq
      ·rw [if_pos c6] at H
       have c6b : decide (0 ≤ tq) = true := decide_eq_true c6
       clear c6
       rw [hw1] at H
       have H' := Aside0.mk H
       clear H
       go_wp2_with (first
         | ((with_reducible refine Zz (N := 6) rfl ?_); refine ZI ?hg (N := 6) ?hd (cs := #[.slice none 0 0]) (t := 31) ?hr ?_; (case hd => rfl); (case hg => rfl); (case hr => first | (go_simp; done) | (go_simp; rfl)); intro gA hgA w5 hbox hb5; have HC5 := HCALL w5 gA 0 hbox (Nat.le_of_eq hgA.symm) hb5; have hcz5 : w5.cell? ⟨gA, 0, none⟩ = some (.slice none 0 0) := (Za hbox 0).trans rfl; have hfz5 := Zb hbox 0; clear hbox hb5 hgA HCALL)
         | (go_at_call 70; refine HC5.mono ?_; rintro e w8 ⟨rfl, hb8, hcz8⟩; have HB8 := Aside0.mk hb8; clear hb8))
       go_roundg k1
       case measure => have := HK1.out; omega
       case rel => exact ⟨J, x12 + 1, (by first | rfl | rw [hw1]), H', ⟨by have := HK1.out; omega⟩, ⟨raw_keep HO.out (fun k hk => HB8.out.block k (Kd.R_lt HO.out k hk))⟩, ⟨Zc HF.out HB8.out⟩, ⟨HJ.out.1, fun j hj => ⟨by have := (HJ.out.2 j hj).1; omega, (HJ.out.2 j hj).2⟩⟩, ⟨Zc HB.out HB8.out⟩⟩
      rw [if_neg c6] at H
      have c6b : decide (0 ≤ tq) = false := decide_eq_false c6
      clear c6
      by_cases c7 : (J.map fun j => t.getD j []).length < 5864062014805
      rotate_left
      ·rw [if_neg c7] at H
       exact absurd H (by simp)
      rw [if_pos c7] at H
      rw [hw1] at H
      have hJl : J.length < 5864062014805 := by rwa [List.length_map] at c7
      clear c7
      have H' : Aside0 (impl_Preferred.l0 k1 ((J ++ [x12.toNat]).map fun j => t.getD j []) t (x12 + 1) = some r) := ⟨by rw [List.map_append]; exact H⟩
      clear H
      go_wp2_with (first
        | ((with_reducible refine Zz (N := 6) rfl ?_); refine ZI ?hg (N := 6) ?hd (cs := #[.slice none 0 0]) (t := 31) ?hr ?_; (case hd => rfl); (case hg => rfl); (case hr => first | (go_simp; done) | (go_simp; rfl)); intro gA hgA w5 hbox hb5; have HC5 := HCALL w5 gA 0 hbox (Nat.le_of_eq hgA.symm) hb5; have hcz5 : w5.cell? ⟨gA, 0, none⟩ = some (.slice none 0 0) := (Za hbox 0).trans rfl; have hfz5 := Zb hbox 0; clear hbox hb5 hgA HCALL)
        | (go_at_call 70; refine HC5.mono ?_; rintro e w8 ⟨rfl, hb8, hcz8⟩; have HB8 := Aside0.mk hb8; clear hb8)
        | ((with_reducible refine gate_builtin (b := .append) (xs := #[.tmp 20, .tmp 22]) rfl ?_); at_builtin; refine Kd.R_append (Kd.raw 1) (w0 := w) w.heap.size rfl (.tmp 20) (.tmp 22) 22 31 (.slice none 0 0) 24 rfl Try.underlying22 info31 rfl (by decide) (by omega) u4 (J.map fun j => [hd j]) [hd x12.toNat] [.slice Ai row.length ci] (fun k => w7.heap.size ≤ k) (fun _ => False) rfl rfl ?aP (fun _ hk => hk.elim) ?aF ?aO ?aB ?aS ?aL ?_; (case aP => exact ⟨by rw [HEI.out], rfl, fun u hu => by rw [List.mem_singleton.1 hu]; rfl⟩); (case aF => exact fun k hk => Nat.le_trans (Nat.le_trans (Ze HF.out) (Ze HB8.out)) hk); (case aO => exact raw_keep HO.out (fun k hk => HB8.out.block k (Kd.R_lt HO.out k hk))); (case aB => exact Zc HB.out HB8.out); (case aS => exact Ze (Zc HB.out HB8.out)); (case aL => rw [List.length_map]; omega); intro v23 w23 ho23 hb23 hg23 hat23; have HO2 := Aside0.mk ho23; have HF2 := Aside0.mk ((Zc HF.out HB8.out).grown hg23 (Ze (Zc HF.out HB8.out)) (fun k hk => HO.out.1 k hk)); have HB2 := Aside0.mk hb23; clear ho23 hb23 hg23 hat23))
      go_roundg k1
      case measure => have := HK1.out; omega
      case rel => exact ⟨J ++ [x12.toNat], x12 + 1, (by first | rfl | rw [hw1]), H', ⟨by have := HK1.out; omega⟩, ⟨by rw [List.map_append]; exact HO2.out⟩, HF2, ⟨List.nodup_append.2 ⟨HJ.out.1, by simp, fun a ha b hb => by rw [List.mem_singleton.1 hb]; have := (HJ.out.2 a ha).1; omega⟩, fun j hj => by
        have q1 := of_decide_eq_true c3b0
        have q2 := of_decide_eq_true c4b0
        rcases List.mem_append.1 hj with hj | hj
        · have := HJ.out.2 j hj
          omega
        · rw [List.mem_singleton.1 hj]
          omega⟩, HB2⟩

/-! ### impl_IsStable: function 73 -/
def impl_IsStable.l0 : Nat → List Int → List Int → Int → Int → Option (Bool)
 | 0, _, _, _, _ => none
 | k + 1, x1, x5, x15, x16 => if x16 < x15 then ((slices_Contains_int_int.f k x1 x16).bind fun t558 => (if t558 = true then (impl_IsStable.l0 k x1 x5 x15 (wrap64 (x16 + 1))) else ((slices_Contains_int_int.f k x5 x16).bind fun t559 => (if t559 = true then (impl_IsStable.l0 k x1 x5 x15 (wrap64 (x16 + 1))) else (some false))))) else (some true)
def impl_IsStable.f (k : Nat) (a0_0 : Int) (l0_1 : List (List Int)) (l1 : List Int) : Option (Bool) := (impl_IsFree.f k a0_0 l0_1 l1).bind fun t554 => (if t554 = true then ((impl_HitBy.f k a0_0 l0_1 l1).bind fun t555 => (impl_IsStable.l0 k l1 t555 a0_0 0)) else (some false))
theorem impl_IsStable.mono_l : ∀ k, (∀ y0 y1 y2 y3, LeO (impl_IsStable.l0 k y0 y1 y2 y3) (impl_IsStable.l0 (k + 1) y0 y1 y2 y3))
 | 0 => fun _ _ _ _ r h => by simp [impl_IsStable.l0] at h
 | k + 1 => by
  have ih0 := impl_IsStable.mono_l k
  ·intro y0 y1 y2 y3
   unfold impl_IsStable.l0
   repeat' with_reducible first | apply ih0 | apply impl_HitBy.mono | apply impl_IsFree.mono | apply slices_Contains_int_int.mono | apply Zy | apply Zg | refine Zl ?_ ?_ | refine Zh ?_ (fun _ => ?_)
theorem impl_IsStable.mono : ∀ a0 a1 a2 k, LeO (impl_IsStable.f k a0 a1 a2) (impl_IsStable.f (k + 1) a0 a1 a2) := by
 intro a0 a1 a2 k
 have ih0 := impl_IsStable.mono_l k
 unfold impl_IsStable.f
 repeat' with_reducible first | apply ih0 | apply impl_HitBy.mono | apply impl_IsFree.mono | apply slices_Contains_int_int.mono | apply Zy | apply Zg | refine Zl ?_ ?_ | refine Zh ?_ (fun _ => ?_)
theorem impl_IsStable.calls (k : Nat) (a0_0 : Int) (A0_1 : Option Addr) (c0_1 : Nat) (l0_1 : List (List Int)) (A1 : Option Addr) (c1 : Nat) (l1 : List Int) (r : Bool) (w : World) (hr0_1 : Kd.C (Kd.slice 3 (Kd.int .i64)) w A0_1 l0_1.length l0_1) (hc0_1 : l0_1.length ≤ c0_1) (hr1 : Kd.C (Kd.int .i64) w A1 l1.length l1) (hc1 : l1.length ≤ c1) (h : impl_IsStable.f k a0_0 l0_1 l1 = some r) :
  Calls Try.prog 73 #[.agg #[.int .i64 a0_0, .slice A0_1 l0_1.length c0_1], .slice A1 l1.length c1] w fun e w' => e = .returned (.bool r) ∧ Below w.heap.size w w' := by
 have hu27 := Try.underlying27
 have HR0_1 := Aside0.mk hr0_1
 have HC0_1 := Aside0.mk hc0_1
 clear hr0_1 hc0_1
 have HR1 := Aside0.mk hr1
 have HC1 := Aside0.mk hc1
 clear hr1 hc1
 have HB := Aside0.mk (Below.refl w.heap.size w)
 have H := h
 unfold impl_IsStable.f at H
 clear h
 obtain ⟨t554, A3, H⟩ := bd_ H
 try dsimp only at H
 by_cases c4 : t554 = true
 rotate_left
 ·replace c4 := Bool.eq_false_iff.mpr c4
  subst c4
  rw [if_neg (show ¬ (false = true) by decide)] at H
  try dsimp only at H
  obtain rfl := Option.some.inj H
  go_enter Try.func73, Try.ntmps73
  go_wp2_with (first | ((with_reducible refine Zz (N := 2) rfl ?_); refine ZI ?hg (N := 2) ?hd (cs := #[.int .i64 a0_0, .slice A0_1 l0_1.length c0_1]) (t := 27) ?hr ?_; (case hd => rfl); (case hg => rfl); (case hr => first | (go_simp; done) | (go_simp; rfl)); intro gb553 hg w19 hbox hb; have BK553 := Aside0.mk (hbox); have GW553 := Aside0.mk ((hz_ hg : w.heap.size ≤ gb553)); have GE553 := Aside0.mk ((hz_ hg : w.heap.size ≤ gb553)); replace HB := Aside0.mk (Zc hB_ hb); clear hb hbox hg; obtain ⟨hcz20_0, hcz20_1, hfz20_0, hfz20_1⟩ := c2_ BK553.out) | ((with_reducible refine Zf (f := 75) rfl ?_); refine ZC (some 9) rfl rfl Try.func75 (by kernel_rfl) rfl #[.agg #[.int .i64 a0_0, .slice A0_1 l0_1.length c0_1], .slice A1 l1.length c1] rfl ar_ ?_; (with_reducible refine (impl_IsFree.calls k a0_0 _ _ l0_1 _ _ l1 false _ ?side1 ?side2 ?side3 ?side4 A3.out).mono ?_); (case side1 => exact cb_ HR0_1.out); (case side2 => exact HC0_1.out); (case side3 => exact cb_ HR1.out); (case side4 => exact HC1.out); rintro e w21 ⟨rfl, hb⟩; refine ⟨_, rfl, ?_⟩; replace BK553 := Aside0.mk (Zd (bq_ BK553.out) hb); replace HB := Aside0.mk (Zc hB_ hb); (try clear hb)))
  go_ret
  exact ⟨er_, hB_⟩
 subst c4
 rw [if_pos rfl] at H
 try dsimp only at H
 obtain ⟨t555, A5, H⟩ := bd_ H
 try dsimp only at H
 have H' := Aside0.mk H
 clear H
 go_enter Try.func73, Try.ntmps73
 go_wp2_with (first | ((with_reducible refine Zz (N := 2) rfl ?_); refine ZI ?hg (N := 2) ?hd (cs := #[.int .i64 a0_0, .slice A0_1 l0_1.length c0_1]) (t := 27) ?hr ?_; (case hd => rfl); (case hg => rfl); (case hr => first | (go_simp; done) | (go_simp; rfl)); intro gb553 hg w6 hbox hb; have BK553 := Aside0.mk (hbox); have GW553 := Aside0.mk ((hz_ hg : w.heap.size ≤ gb553)); have GE553 := Aside0.mk ((hz_ hg : w.heap.size ≤ gb553)); replace HB := Aside0.mk (Zc hB_ hb); clear hb hbox hg; obtain ⟨hcz7_0, hcz7_1, hfz7_0, hfz7_1⟩ := c2_ BK553.out) | ((with_reducible refine Zf (f := 75) rfl ?_); refine ZC (some 9) rfl rfl Try.func75 (by kernel_rfl) rfl #[.agg #[.int .i64 a0_0, .slice A0_1 l0_1.length c0_1], .slice A1 l1.length c1] rfl ar_ ?_; (with_reducible refine (impl_IsFree.calls k a0_0 _ _ l0_1 _ _ l1 true _ ?side1 ?side2 ?side3 ?side4 A3.out).mono ?_); (case side1 => exact cb_ HR0_1.out); (case side2 => exact HC0_1.out); (case side3 => exact cb_ HR1.out); (case side4 => exact HC1.out); rintro e w8 ⟨rfl, hb⟩; refine ⟨_, rfl, ?_⟩; replace BK553 := Aside0.mk (Zd (bq_ BK553.out) hb); replace HB := Aside0.mk (Zc hB_ hb); (try clear hb); obtain ⟨hcz9_0, hcz9_1, hfz9_0, hfz9_1⟩ := c2_ BK553.out) | ((with_reducible refine Zf (f := 114) rfl ?_); refine ZC (some 13) rfl rfl Try.func114 (by kernel_rfl) rfl #[.agg #[.int .i64 a0_0, .slice A0_1 l0_1.length c0_1], .slice A1 l1.length c1] rfl ar_ ?_; (with_reducible refine (impl_HitBy.calls k a0_0 _ _ l0_1 _ _ l1 t555 _ ?side1 ?side2 ?side3 ?side4 A5.out).mono ?_); (case side1 => exact cb_ HR0_1.out); (case side2 => exact HC0_1.out); (case side3 => exact cb_ HR1.out); (case side4 => exact HC1.out); rintro e w10 ⟨v556, rfl, ho0, hb⟩; refine ⟨_, rfl, ?_⟩; have HO557 := Aside0.mk (Kd.R_lower ho0 (Ze hB_)); replace BK553 := Aside0.mk (Zd (bq_ BK553.out) hb); replace HB := Aside0.mk (Zc hB_ hb); (try clear hb); (try clear ho0); obtain ⟨hcz11_0, hcz11_1, hfz11_0, hfz11_1⟩ := c2_ BK553.out))
 go_loopg [16] k (fun kq v16 w' => ∃ (x16_1 : Int), v16 = .int .i64 x16_1 ∧ Aside0 (impl_IsStable.l0 kq l1 t555 a0_0 x16_1 = some r) ∧ Aside0 (kq ≤ k) ∧ Aside0 (Kd.R (Kd.int .i64) 3 w' w.heap.size (fun _ => True) v556 t555) ∧ Aside0 (w'.heap[gb553]? = some (.cells #[.int .i64 a0_0, (.slice A0_1 l0_1.length c0_1)] 27 (0, 0))) ∧ Aside0 (Below w.heap.size w w'))
 case atStart => exact ⟨(0), sm_, H', ⟨Nat.le_refl _⟩, ⟨rR_ HO557.out⟩, ⟨bk_ BK553.out⟩, ⟨hB_⟩⟩
 case round =>
  clear H'
  try clear c1
  try clear p2
  try clear c4
  try clear c7
  try clear c11
  try clear hcz11_0
  try clear hcz11_1
  try clear hcz7_0
  try clear hcz7_1
  try clear hcz9_0
  try clear hcz9_1
  try clear hfz11_0
  try clear hfz11_1
  try clear hfz7_0
  try clear hfz7_1
  try clear hfz9_0
  try clear hfz9_1
  obtain ⟨x16_1, rfl, HA, HK1, HO_5, BK553, HB⟩ := hrel
  cases gk with
  | zero => exact absurd HA.out (by simp [impl_IsStable.l0])
  | succ k1 =>
   have H := HA.out
   clear HA
   simp only [impl_IsStable.l0] at H
   by_cases c12 : x16_1 < a0_0
   rotate_left
   ·rw [if_neg c12] at H
    have c12b0 : decide (x16_1 < a0_0) = false := decide_eq_false c12
    clear c12
    obtain rfl := Option.some.inj H
    go_wp2
    go_ret
    exact ⟨er_, hB_⟩
   rw [if_pos c12] at H
   have c12b0 : decide (x16_1 < a0_0) = true := decide_eq_true c12
   clear c12
   obtain ⟨t558, A13, H⟩ := bd_ H
   try dsimp only at H
   by_cases c14 : t558 = true
   ·subst c14
    rw [if_pos rfl] at H
    try dsimp only at H
    have H' := Aside0.mk H
    clear H
    go_wp2_with (first | ((with_reducible refine Zf (f := 80) rfl ?_); refine ZC (some 21) rfl rfl Try.func80 (by kernel_rfl) rfl #[.slice A1 l1.length c1, .int .i64 x16_1] rfl ar_ ?_; (with_reducible refine (slices_Contains_int_int.calls k1 _ _ l1 x16_1 true _ ?side1 ?side2 A13.out).mono ?_); (case side1 => exact cb_ HR1.out); (case side2 => exact HC1.out); rintro e w' ⟨rfl, ⟨nd, rfl⟩⟩; refine ⟨_, rfl, ?_⟩))
    go_roundg k1
    case measure => have := HK1.out; omega
    case rel => exact ⟨(wrap64 (x16_1 + 1)), sm_, H', ⟨by have := HK1.out; omega⟩, ⟨rR_ HO_5.out⟩, ⟨bk_ BK553.out⟩, ⟨hB_⟩⟩
   replace c14 := Bool.eq_false_iff.mpr c14
   subst c14
   rw [if_neg (show ¬ (false = true) by decide)] at H
   try dsimp only at H
   obtain ⟨t559, A15, H⟩ := bd_ H
   try dsimp only at H
   by_cases c16 : t559 = true
   rotate_left
   ·replace c16 := Bool.eq_false_iff.mpr c16
    subst c16
    rw [if_neg (show ¬ (false = true) by decide)] at H
    try dsimp only at H
    obtain rfl := Option.some.inj H
    go_wp2_with (first | ((with_reducible refine Zf (f := 80) rfl ?_); refine ZC (some 21) rfl rfl Try.func80 (by kernel_rfl) rfl #[.slice A1 l1.length c1, .int .i64 x16_1] rfl ar_ ?_; (with_reducible refine (slices_Contains_int_int.calls k1 _ _ l1 x16_1 false _ ?side1 ?side2 A13.out).mono ?_); (case side1 => exact cb_ HR1.out); (case side2 => exact HC1.out); rintro e w' ⟨rfl, ⟨nd, rfl⟩⟩; refine ⟨_, rfl, ?_⟩; obtain ⟨Ao18, co18, eo18⟩ := Kd.R_slice HO_5.out; subst eo18) | (go_at_call 80; (with_reducible refine (slices_Contains_int_int.calls k1 _ _ t555 x16_1 false _ ?side1 ?side2 A15.out).mono ?_); (case side1 => exact sA_ (ZE HO_5.out).2.2); (case side2 => exact (ZE HO_5.out).2.1); rintro e w' ⟨rfl, ⟨nd, rfl⟩⟩))
    go_ret
    exact ⟨er_, hB_⟩
   subst c16
   rw [if_pos rfl] at H
   try dsimp only at H
   have H' := Aside0.mk H
   clear H
   go_wp2_with (first | ((with_reducible refine Zf (f := 80) rfl ?_); refine ZC (some 21) rfl rfl Try.func80 (by kernel_rfl) rfl #[.slice A1 l1.length c1, .int .i64 x16_1] rfl ar_ ?_; (with_reducible refine (slices_Contains_int_int.calls k1 _ _ l1 x16_1 false _ ?side1 ?side2 A13.out).mono ?_); (case side1 => exact cb_ HR1.out); (case side2 => exact HC1.out); rintro e w' ⟨rfl, ⟨nd, rfl⟩⟩; refine ⟨_, rfl, ?_⟩; obtain ⟨Ao17, co17, eo17⟩ := Kd.R_slice HO_5.out; subst eo17) | (go_at_call 80; (with_reducible refine (slices_Contains_int_int.calls k1 _ _ t555 x16_1 true _ ?side1 ?side2 A15.out).mono ?_); (case side1 => exact sA_ (ZE HO_5.out).2.2); (case side2 => exact (ZE HO_5.out).2.1); rintro e w' ⟨rfl, ⟨nd, rfl⟩⟩))
   go_roundg k1
   case measure => have := HK1.out; omega
   case rel => exact ⟨(wrap64 (x16_1 + 1)), sm_, H', ⟨by have := HK1.out; omega⟩, ⟨rR_ HO_5.out⟩, ⟨bk_ BK553.out⟩, ⟨hB_⟩⟩

/-! ### impl_StableSets: function 23 -/
def impl_StableSets.l0 : Nat → List (List Int) → List (List Int) → Int → Int → Int → List (List Int) → Option ((List (List Int)))
 | 0, _, _, _, _, _, _ => none
 | k + 1, x3, x8, x9, x10, x561000, x561001 => if x10 < x9 then (if 0 ≤ x10 then (if x10 < (x8.length : Int) then ((impl_IsStable.f k x561000 x561001 (rd_L2 x8 x10)).bind fun t568 => (if t568 = true then (if x3.length < 5864062014805 then (impl_StableSets.l0 k (x3 ++ [rd_L2 x8 x10]) x8 x9 (wrap64 (x10 + 1)) x561000 x561001) else (none)) else (impl_StableSets.l0 k x3 x8 x9 (wrap64 (x10 + 1)) x561000 x561001))) else (none)) else (none)) else (some x3)
def impl_StableSets.f (k : Nat) (a0_0 : Int) (l0_1 : List (List Int)) : Option ((List (List Int))) := (impl_AllComplete.f k a0_0 l0_1).bind fun t564 => (impl_StableSets.l0 k (([] : List (List Int))) t564 (t564.length : Int) 0 a0_0 l0_1)
theorem impl_StableSets.mono_l : ∀ k, (∀ y0 y1 y2 y3 y4 y5, LeO (impl_StableSets.l0 k y0 y1 y2 y3 y4 y5) (impl_StableSets.l0 (k + 1) y0 y1 y2 y3 y4 y5))
 | 0 => fun _ _ _ _ _ _ r h => by simp [impl_StableSets.l0] at h
 | k + 1 => by
  have ih0 := impl_StableSets.mono_l k
  ·intro y0 y1 y2 y3 y4 y5
   unfold impl_StableSets.l0
   repeat' with_reducible first | apply ih0 | apply impl_AllComplete.mono | apply impl_IsStable.mono | apply Zy | apply Zg | refine Zl ?_ ?_ | refine Zh ?_ (fun _ => ?_)
theorem impl_StableSets.mono : ∀ a0 a1 k, LeO (impl_StableSets.f k a0 a1) (impl_StableSets.f (k + 1) a0 a1) := by
 intro a0 a1 k
 have ih0 := impl_StableSets.mono_l k
 unfold impl_StableSets.f
 repeat' with_reducible first | apply ih0 | apply impl_AllComplete.mono | apply impl_IsStable.mono | apply Zy | apply Zg | refine Zl ?_ ?_ | refine Zh ?_ (fun _ => ?_)
theorem impl_StableSets.calls (k : Nat) (a0_0 : Int) (A0_1 : Option Addr) (c0_1 : Nat) (l0_1 : List (List Int)) (r : List (List Int)) (w : World) (hr0_1 : Kd.C (Kd.slice 3 (Kd.int .i64)) w A0_1 l0_1.length l0_1) (hc0_1 : l0_1.length ≤ c0_1) (h : impl_StableSets.f k a0_0 l0_1 = some r) :
  Calls Try.prog 23 #[.agg #[.int .i64 a0_0, .slice A0_1 l0_1.length c0_1]] w fun e w' => ∃ v0_ : Value, e = .returned (v0_) ∧ Kd.N (Kd.slice 3 (Kd.int .i64)) 31 w' w.heap.size (fun k_ => (w.heap.size ≤ k_)) v0_ r ∧ Below w.heap.size w w' := by
 have hu27 := Try.underlying27
 have HR0_1 := Aside0.mk hr0_1
 have HC0_1 := Aside0.mk hc0_1
 clear hr0_1 hc0_1
 have HB := Aside0.mk (Below.refl w.heap.size w)
 have H := h
 unfold impl_StableSets.f at H
 clear h
 obtain ⟨y561, hy561⟩ : ∃ y_ : List (List Int), y_ = (([] : List (List Int))) := ⟨_, rfl⟩
 replace H : ((impl_AllComplete.f k a0_0 l0_1).bind fun t564 => (impl_StableSets.l0 k y561 t564 (t564.length : Int) 0 a0_0 l0_1)) = some r := hy_ hy561 H
 have Ny561 := Aside0.mk hy561
 clear hy561
 obtain ⟨t564, A2, H⟩ := bd_ H
 try dsimp only at H
 have H' := Aside0.mk H
 clear H
 go_enter Try.func23, Try.ntmps23
 go_wp2_with (first | ((with_reducible refine Zz (N := 1) rfl ?_); refine ZI ?hg (N := 1) ?hd (cs := #[.int .i64 a0_0, .slice A0_1 l0_1.length c0_1]) (t := 27) ?hr ?_; (case hd => rfl); (case hg => rfl); (case hr => first | (go_simp; done) | (go_simp; rfl)); intro gb560 hg w3 hbox hb; have BK560 := Aside0.mk (hbox); have GW560 := Aside0.mk ((hz_ hg : w.heap.size ≤ gb560)); have GE560 := Aside0.mk ((hz_ hg : w.heap.size ≤ gb560)); replace HB := Aside0.mk (Zc hB_ hb); clear hb hbox hg) | ((with_reducible refine Zz (N := 6) rfl ?_); refine Kd.N_lit (Kd.slice 3 (Kd.int .i64)) _ 31 ?hg (N' := 6) ?hd (xs := ([] : List (List Int))) (inner := []) (ok := (fun k_ => (w.heap.size ≤ k_) ∧ k_ ≠ gb560)) (okp := (fun k_ => (w.heap.size ≤ k_) ∧ k_ ≠ gb560)) ?hr ?hp (fun _ hk => hk) ((show ∀ k_, w3.heap.size ≤ k_ → (fun k_ => (w.heap.size ≤ k_) ∧ k_ ≠ gb560) k_ from fun k_ hk => ⟨(Nat.le_trans (Ze hB_) hk), Kd.freshB (bq_ BK560.out) k_ hk⟩) _ (Nat.le_refl _)) (Below.refl _ _) (Nat.le_refl _) (by simp) ?_; (case hd => rfl); (case hg => rfl); (case hr => first | (go_simp; done) | (go_simp; rfl)); (case hp => exact (Reps.none _ _)); intro v562 w4 ho5 hb hg_ hnew_; clear hg_ hnew_; (first | rw [← Ny561.out] at ho5 | (simp only [Int.reduceToNat] at ho5; rw [← Ny561.out] at ho5)); have HO563 := Aside0.mk (Kd.N_lower ho5 (Ze hB_)); replace BK560 := Aside0.mk (Zd (bq_ BK560.out) hb); replace HB := Aside0.mk (Zc hB_ hb); clear hb ho5; obtain ⟨hcz6_0, hcz6_1, hfz6_0, hfz6_1⟩ := c2_ BK560.out) | ((with_reducible refine Zf (f := 20) rfl ?_); refine ZC (some 8) rfl rfl Try.func20 (by kernel_rfl) rfl #[.agg #[.int .i64 a0_0, .slice A0_1 l0_1.length c0_1]] rfl ar_ ?_; (with_reducible refine (impl_AllComplete.calls k a0_0 _ _ l0_1 t564 _ ?side1 ?side2 A2.out).mono ?_); (case side1 => exact cb_ HR0_1.out); (case side2 => exact HC0_1.out); rintro e w7 ⟨v565, rfl, ho0, hb⟩; refine ⟨_, rfl, ?_⟩; have HO566 := Aside0.mk (Kd.N_lower (ZB (ok' := fun k_ => (w.heap.size ≤ k_) ∧ some k_ ≠ (v562 : Value).ownBlock ∧ k_ ≠ gb560) (Kd.S_N (Kd.S_bound ho0)) (fun k_ hk_ => ⟨(Nat.le_trans (Ze hB_) hk_.2.1), (ZM (Kd.N_lt (rN_ HO563.out)) k_ hk_.2.1), (Kd.freshB (bq_ BK560.out) k_ hk_.2.1)⟩)) (Ze hB_)); replace HO563 := Aside0.mk (Kd.N_elder' (rN_ HO563.out) (Kd.S_base ho0) hb); replace BK560 := Aside0.mk (Zd (bq_ BK560.out) hb); replace HB := Aside0.mk (Zc hB_ hb); (try clear hb); (try clear hk); (try clear ho0); obtain ⟨Ao8, co8, eo8⟩ := Kd.N_slice HO566.out; subst eo8))
 go_loopg [3, 10] k (fun kq v3 v10 w' => ∃ (x3_1 : List (List Int)) (x10_1 : Int), v10 = .int .i64 x10_1 ∧ Aside0 (impl_StableSets.l0 kq x3_1 t564 (t564.length : Int) x10_1 a0_0 l0_1 = some r) ∧ Aside0 (kq ≤ k) ∧ Aside0 (Kd.N (Kd.slice 3 (Kd.int .i64)) 31 w' w.heap.size (fun k_ => (w.heap.size ≤ k_) ∧ some k_ ≠ ((.slice Ao8 t564.length co8) : Value).ownBlock ∧ k_ ≠ gb560) v3 x3_1) ∧ Aside0 (Kd.N (Kd.slice 3 (Kd.int .i64)) 31 w' w.heap.size (fun k_ => (w.heap.size ≤ k_) ∧ some k_ ≠ (v3 : Value).ownBlock ∧ k_ ≠ gb560) (.slice Ao8 t564.length co8) t564) ∧ Aside0 (w'.heap[gb560]? = some (.cells #[.int .i64 a0_0, (.slice A0_1 l0_1.length c0_1)] 27 (0, 0))) ∧ Aside0 (Below w.heap.size w w'))
 case atStart => exact ⟨(y561), (0), sm_, H', ⟨Nat.le_refl _⟩, ⟨by (with_reducible repeat (first | apply ZG | apply ZF | apply Zv)); exact ZB HO563.out (fun _ hk => ⟨hk.1.1, ⟨hk.2, hk.1.2⟩⟩)⟩, ⟨rN_ HO566.out⟩, ⟨bk_ BK560.out⟩, ⟨hB_⟩⟩
 case round =>
  clear H'
  try clear c2
  try clear p2
  try clear hcz6_0
  try clear hcz6_1
  try clear hfz6_0
  try clear hfz6_1
  obtain ⟨x3_1, x10_1, rfl, HA, HK1, HO_3, HO_8, BK560, HB⟩ := hrel
  cases gk with
  | zero => exact absurd HA.out (by simp [impl_StableSets.l0])
  | succ k1 =>
   have H := HA.out
   clear HA
   simp only [impl_StableSets.l0] at H
   by_cases c9 : x10_1 < (t564.length : Int)
   rotate_left
   ·rw [if_neg c9] at H
    have c9b0 : decide (x10_1 < (t564.length : Int)) = false := decide_eq_false c9
    (try (have c9z := c9b0; rw [hl567_0] at c9z))
    clear c9
    obtain rfl := Option.some.inj H
    go_wp2
    go_ret
    exact ⟨_, er_, by (with_reducible repeat (first | apply ZG | apply ZF | apply Zv)); exact ZB HO_3.out (fun _ hk => hk.1), hB_⟩
   rw [if_pos c9] at H
   have c9b0 : decide (x10_1 < (t564.length : Int)) = true := decide_eq_true c9
   (try (have c9z := c9b0; rw [hl567_0] at c9z))
   clear c9
   by_cases c10 : 0 ≤ x10_1
   rotate_left
   ·rw [if_neg c10] at H
    exact absurd H (by simp)
   rw [if_pos c10] at H
   have c10b0 : decide (0 ≤ x10_1) = true := decide_eq_true c10
   clear c10
   by_cases c11 : x10_1 < (t564.length : Int)
   rotate_left
   ·rw [if_neg c11] at H
    exact absurd H (by simp)
   rw [if_pos c11] at H
   have c11b0 : decide (x10_1 < (t564.length : Int)) = true := decide_eq_true c11
   (try (have c11z := c11b0; rw [hl567_0] at c11z))
   clear c11
   obtain ⟨t568, A12, H⟩ := bd_ H
   try dsimp only at H
   by_cases c13 : t568 = true
   rotate_left
   ·replace c13 := Bool.eq_false_iff.mpr c13
    subst c13
    rw [if_neg (show ¬ (false = true) by decide)] at H
    try dsimp only at H
    have H' := Aside0.mk H
    clear H
    have p567 : 0 ≤ (x10_1 : Int) := of_decide_eq_true as_
    have q567 : x10_1 < (t564.length : Int) := of_decide_eq_true as_
    obtain ⟨ad567, A567_0, c567_0, e567, hx567_0, hl567_0, hi567_0⟩ := at_L2 (Zn HO_8.out).2.2 x10_1 p567 q567
    cases e567
    obtain ⟨ce567, hce567, hMe567, hcc567⟩ := Kd.N_get HO_8.out [] x10_1 p567 (by first | exact q567 | exact of_decide_eq_true as_ | (have e_ := (Zn HO_8.out).1; omega))
    obtain ⟨ua567_0, uc567_0, rfl, ul567_0, ge567_0⟩ := Kd.FK_slice_open hMe567
    have hv567_0 := hcc567 0 _ rfl
    rw [Nat.add_zero, show ((Kd.slice 3 (Kd.int .i64))).sz = 1 from rfl, Nat.mul_one] at hv567_0
    replace hv567_0 := Option.some.inj (hv567_0.symm.trans hx567_0)
    injection hv567_0 with hva_ hvn_ hvc_
    rw [hva_] at ge567_0
    rw [hvc_] at ul567_0
    have HL567_0 := Aside0.mk (show Kd.V (Kd.int .i64) 3 _ w.heap.size _ _ (rd_L2 t564 x10_1) from Kd.V_mk ul567_0 ge567_0)
    clear hva_ hvn_ hvc_ ge567_0 ul567_0
    clear hcc567 hce567
    have HR567_0 := Aside0.mk hi567_0
    have HC567_0 := Aside0.mk hl567_0
    clear hi567_0 hl567_0
    replace p567 := eq_true p567
    replace q567 := eq_true q567
    obtain ⟨hcz18_0, hcz18_1, hfz18_0, hfz18_1⟩ := c2_ BK560.out
    go_wp2_with (first | ((with_reducible refine Zf (f := 73) rfl ?_); refine ZC (some 16) rfl rfl Try.func73 (by kernel_rfl) rfl #[.agg #[.int .i64 a0_0, .slice A0_1 l0_1.length c0_1], .slice A567_0 (rd_L2 t564 x10_1).length c567_0] rfl ar_ ?_; (with_reducible refine (impl_IsStable.calls k1 a0_0 _ _ l0_1 _ _ (rd_L2 t564 x10_1) false _ ?side1 ?side2 ?side3 ?side4 A12.out).mono ?_); (case side1 => exact cb_ HR0_1.out); (case side2 => exact HC0_1.out); (case side3 => exact sA_ (cf_ HR567_0.out)); (case side4 => exact HC567_0.out); rintro e w19 ⟨rfl, hb⟩; refine ⟨_, rfl, ?_⟩; replace HO_3 := Aside0.mk (ZH (rN_ HO_3.out) hb); replace HO_8 := Aside0.mk (ZH (rN_ HO_8.out) hb); replace HL567_0 := Aside0.mk (Kd.V_below (by (with_reducible repeat (first | apply ZQ | apply ZO | apply ZS)); exact HL567_0.out) hb); replace BK560 := Aside0.mk (Zd (bq_ BK560.out) hb); replace HR567_0 := Aside0.mk (Kd.C_below (cf_ HR567_0.out) hb); replace HB := Aside0.mk (Zc hB_ hb); (try clear hb)))
    go_roundg k1
    case measure => have := HK1.out; omega
    case rel => exact ⟨(x3_1), (wrap64 (x10_1 + 1)), sm_, H', ⟨by have := HK1.out; omega⟩, ⟨rN_ HO_3.out⟩, ⟨rN_ HO_8.out⟩, ⟨bk_ BK560.out⟩, ⟨hB_⟩⟩
   subst c13
   rw [if_pos rfl] at H
   try dsimp only at H
   by_cases c14 : x3_1.length < 5864062014805
   rotate_left
   ·rw [if_neg c14] at H
    exact absurd H (by simp)
   rw [if_pos c14] at H
   have LMc14 := Aside0.mk c14
   clear c14
   obtain ⟨y569, hy569⟩ : ∃ y_ : List (List Int), y_ = (x3_1 ++ [rd_L2 t564 x10_1]) := ⟨_, rfl⟩
   replace H : (impl_StableSets.l0 k1 y569 t564 (t564.length : Int) (wrap64 (x10_1 + 1)) a0_0 l0_1) = some r := hy_ hy569 H
   have Ny569 := Aside0.mk hy569
   clear hy569
   have H' := Aside0.mk H
   clear H
   have p567 : 0 ≤ (x10_1 : Int) := of_decide_eq_true as_
   have q567 : x10_1 < (t564.length : Int) := of_decide_eq_true as_
   obtain ⟨ad567, A567_0, c567_0, e567, hx567_0, hl567_0, hi567_0⟩ := at_L2 (Zn HO_8.out).2.2 x10_1 p567 q567
   cases e567
   obtain ⟨ce567, hce567, hMe567, hcc567⟩ := Kd.N_get HO_8.out [] x10_1 p567 (by first | exact q567 | exact of_decide_eq_true as_ | (have e_ := (Zn HO_8.out).1; omega))
   obtain ⟨ua567_0, uc567_0, rfl, ul567_0, ge567_0⟩ := Kd.FK_slice_open hMe567
   have hv567_0 := hcc567 0 _ rfl
   rw [Nat.add_zero, show ((Kd.slice 3 (Kd.int .i64))).sz = 1 from rfl, Nat.mul_one] at hv567_0
   replace hv567_0 := Option.some.inj (hv567_0.symm.trans hx567_0)
   injection hv567_0 with hva_ hvn_ hvc_
   rw [hva_] at ge567_0
   rw [hvc_] at ul567_0
   have HL567_0 := Aside0.mk (show Kd.V (Kd.int .i64) 3 _ w.heap.size _ _ (rd_L2 t564 x10_1) from Kd.V_mk ul567_0 ge567_0)
   clear hva_ hvn_ hvc_ ge567_0 ul567_0
   clear hcc567 hce567
   have HR567_0 := Aside0.mk hi567_0
   have HC567_0 := Aside0.mk hl567_0
   clear hi567_0 hl567_0
   replace p567 := eq_true p567
   replace q567 := eq_true q567
   obtain ⟨hcz15_0, hcz15_1, hfz15_0, hfz15_1⟩ := c2_ BK560.out
   go_wp2_with (first | ((with_reducible refine Zf (f := 73) rfl ?_); refine ZC (some 16) rfl rfl Try.func73 (by kernel_rfl) rfl #[.agg #[.int .i64 a0_0, .slice A0_1 l0_1.length c0_1], .slice A567_0 (rd_L2 t564 x10_1).length c567_0] rfl ar_ ?_; (with_reducible refine (impl_IsStable.calls k1 a0_0 _ _ l0_1 _ _ (rd_L2 t564 x10_1) true _ ?side1 ?side2 ?side3 ?side4 A12.out).mono ?_); (case side1 => exact cb_ HR0_1.out); (case side2 => exact HC0_1.out); (case side3 => exact sA_ (cf_ HR567_0.out)); (case side4 => exact HC567_0.out); rintro e w16 ⟨rfl, hb⟩; refine ⟨_, rfl, ?_⟩; replace HO_3 := Aside0.mk (ZH (rN_ HO_3.out) hb); replace HO_8 := Aside0.mk (ZH (rN_ HO_8.out) hb); replace HL567_0 := Aside0.mk (Kd.V_below (by (with_reducible repeat (first | apply ZQ | apply ZO | apply ZS)); exact HL567_0.out) hb); replace BK560 := Aside0.mk (Zd (bq_ BK560.out) hb); replace HR567_0 := Aside0.mk (Kd.C_below (cf_ HR567_0.out) hb); replace HB := Aside0.mk (Zc hB_ hb); (try clear hb); (try clear hk)) | ((with_reducible refine gate_builtin (b := .append) (xs := #[.tmp 17, .tmp 19]) rfl ?_); at_builtin; refine Kd.N_append (Kd.slice 3 (Kd.int .i64)) (w0 := w) w.heap.size rfl (.tmp 17) (.tmp 19) 22 31 (.slice none 0 0) 24 rfl Try.underlying22 info31 rfl (by decide) (by omega) u3 x3_1 (rd_L2 t564 x10_1) [.slice A567_0 (rd_L2 t564 x10_1).length c567_0] (fun k_ => (w.heap.size ≤ k_) ∧ some k_ ≠ (.slice (some ad567) t564.length co8 : Value).ownBlock ∧ k_ ≠ gb560) (fun k_ => ((fun k_ => (w.heap.size ≤ k_) ∧ some k_ ≠ (.slice (some ad567) t564.length co8 : Value).ownBlock ∧ k_ ≠ gb560)) k_ ∧ some k_ ≠ (u3 : Value).ownBlock) rfl rfl ?aP (fun _ hk => hk) ?aF ?aO ?aB ?aS ?aL ?_; (case aP => first | exact (Kd.FK_slice_mk (Kd.V_reads' (ZR (ok' := (fun k_ => ((fun k_ => (w.heap.size ≤ k_) ∧ some k_ ≠ (.slice (some ad567) t564.length co8 : Value).ownBlock ∧ k_ ≠ gb560)) k_ ∧ some k_ ≠ (u3 : Value).ownBlock)) (HL567_0.out) (fun k_ hk => ⟨⟨hk.1.1, ⟨hk.2, hk.1.2.2⟩⟩, hk.1.2.1⟩))).2.1 (Kd.V_F (ZR (ok' := (fun k_ => ((fun k_ => (w.heap.size ≤ k_) ∧ some k_ ≠ (.slice (some ad567) t564.length co8 : Value).ownBlock ∧ k_ ≠ gb560)) k_ ∧ some k_ ≠ (u3 : Value).ownBlock)) (HL567_0.out) (fun k_ hk => ⟨⟨hk.1.1, ⟨hk.2, hk.1.2.2⟩⟩, hk.1.2.1⟩)))) | (have q1 := ZO HL567_0.out nq; have q2 := ZR (ok' := (fun k_ => ((fun k_ => (w.heap.size ≤ k_) ∧ some k_ ≠ (.slice (some ad567) t564.length co8 : Value).ownBlock ∧ k_ ≠ gb560)) k_ ∧ some k_ ≠ (u3 : Value).ownBlock)) q1 (fun k_ hk => ⟨⟨hk.1.1, ⟨hk.2, hk.1.2.2⟩⟩, hk.1.2.1⟩); exact Kd.FK_slice_mk (Kd.V_reads' q2).2.1 (Kd.V_F q2))); (case aB => exact hB_); (case aF => exact (fun k_ hk => ⟨(Nat.le_trans (Ze hB_) hk), ZM (Kd.N_lt (rN_ HO_8.out)) k_ hk, Kd.freshB (bq_ BK560.out) k_ hk⟩)); (case aO => exact (rN_ HO_3.out)); (case aS => exact (Ze hB_)); (case aL => have := LMc14.out; omega); intro v570 w17 ho hb hg hat; rw [← Ny569.out] at ho; have n0_ := Aside0.mk (Kd.N_afterv (ok := (fun k_ => (w.heap.size ≤ k_) ∧ k_ ≠ gb560)) (by (with_reducible repeat (first | apply ZG | apply ZF | apply Zv)); exact ZB HO_8.out (fun _ hk => ⟨⟨hk.1, hk.2.2⟩, hk.2.1⟩)) hg hat); have n1_ := Aside0.mk (ZJ (bq_ BK560.out) hg (Kd.N_ne HO_3.out BK560.out (by decide))); have n2_ := Aside0.mk (Kd.V_afterv (ok := (fun k_ => (w.heap.size ≤ k_) ∧ some k_ ≠ (.slice (some ad567) t564.length co8 : Value).ownBlock ∧ k_ ≠ gb560)) (by (with_reducible repeat (first | apply ZQ | apply ZO | apply ZS)); exact ZR HL567_0.out (fun _ hk => ⟨⟨hk.1.1, ⟨hk.2, hk.1.2.2⟩⟩, hk.1.2.1⟩)) hg hat); have n3_ := Aside0.mk (hb); have n4_ := Aside0.mk (ho); clear HO_8; clear BK560; clear HL567_0; clear HB; clear HO_3; have HO_8 := n0_; have BK560 := n1_; have HL567_0 := n2_; have HB := n3_; have HO571 := n4_; clear n0_ n1_ n2_ n3_ n4_; clear ho hb hg hat))
   go_roundg k1
   case measure => have := HK1.out; omega
   case rel => exact ⟨(y569), (wrap64 (x10_1 + 1)), sm_, H', ⟨by have := HK1.out; omega⟩, ⟨rN_ HO571.out⟩, ⟨by (with_reducible repeat (first | apply ZG | apply ZF | apply Zv)); exact ZB HO_8.out (fun _ hk => ⟨hk.1.1, ⟨hk.2, hk.1.2⟩⟩)⟩, ⟨bk_ BK560.out⟩, ⟨hB_⟩⟩

end Go.Proofs.Ytdlobolnajcfnaa.PFnPositions
