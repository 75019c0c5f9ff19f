-- Written by a program of this session (hooks of mine on the print): Lean checks it.
import Derived.Test.YtkmhkkhlbnhaaaaPFnExactIsCertainx0
import Derived.Test.YtkmhkkhlbnhaaaaPFnExactIsCertainx1
namespace Go.Proofs.Ytkmhkkhlbnhaaaa.PFnExactIsCertain
open Go.RowKit Go.Proofs.YtkmhkkhlbnhaaaaW.PrintWords Go.Proofs.YtkmhkkhlbnhaaaaW.PrintLast Go.Proofs.YtkmhkkhlbnhaaaaW.PrintMore
attribute [local go_sem] max2_int min2_int max_two min_two max_three min_three max_four min_four   -- for this text's walks alone
set_option linter.unusedVariables false
set_option linter.unusedSimpArgs false

/-! ### spec_l4Has: function 46 -/
def spec_l4Has.l0 : Nat → List Int → Int → Int → Option (Bool)
 | 0, _, _, _ => none
 | k + 1, x0, x1, x5 => if x5 < (x0.length : Int) then (if 0 ≤ x5 then (if (rd x0 x5) = x1 then (some true) else (spec_l4Has.l0 k x0 x1 (wrap64 (x5 + 1)))) else (none)) else (some false)
def spec_l4Has.f (k : Nat) (l0 : List Int) (a1 : Int) : Option (Bool) := spec_l4Has.l0 k l0 a1 0
theorem spec_l4Has.mono_l : ∀ k, (∀ y0 y1 y2, LeO (spec_l4Has.l0 k y0 y1 y2) (spec_l4Has.l0 (k + 1) y0 y1 y2))
 | 0 => fun _ _ _ r h => by simp [spec_l4Has.l0] at h
 | k + 1 => by
  have ih0 := spec_l4Has.mono_l k
  ·intro y0 y1 y2
   unfold spec_l4Has.l0
   repeat' first
   | (with_reducible exact ih0 _ _ _)
   | (with_reducible exact Zs _)
   | (with_reducible exact Zg _)
   | (with_reducible refine Zn ?_ ?_)
   | (with_reducible refine Zh ?_ (fun _ => ?_))
   | exact ih0 _ _ _
   | exact Zg _
   | refine Zn ?_ ?_
   | refine Zh ?_ (fun _ => ?_)
theorem spec_l4Has.mono : ∀ a0 a1 k, LeO (spec_l4Has.f k a0 a1) (spec_l4Has.f (k + 1) a0 a1) := by
 intro a0 a1 k
 have ih0 := spec_l4Has.mono_l k
 unfold spec_l4Has.f
 repeat' first
   | (with_reducible exact ih0 _ _ _)
   | (with_reducible exact Zs _)
   | (with_reducible exact Zg _)
   | (with_reducible refine Zn ?_ ?_)
   | (with_reducible refine Zh ?_ (fun _ => ?_))
   | exact ih0 _ _ _
   | exact Zg _
   | refine Zn ?_ ?_
   | refine Zh ?_ (fun _ => ?_)
set_option maxHeartbeats 8000000 in
set_option maxRecDepth 100000 in
theorem spec_l4Has.calls (k : Nat) (A0 : Option Addr) (c0 : Nat) (l0 : List Int) (a1 : Int) (r : Bool) (w : World) (hr0 : Kd.C (Kd.int .i64) w A0 l0.length l0) (hc0 : l0.length ≤ c0) (h : spec_l4Has.f k l0 a1 = some r) :
  Calls Try.prog 46 #[.slice A0 l0.length c0, .int .i64 a1] w fun e w' => e = .returned (.bool r) ∧ Drawn0 w w' := by
 have HR0 := Aside0.mk hr0
 have HC0 := Aside0.mk hc0
 clear hr0 hc0
 have H : (spec_l4Has.l0 k l0 a1 0) = some r := h
 clear h
 have H' := Aside0.mk H
 clear H
 go_enter Try.func46, Try.ntmps46
 go_wp2
 go_loopg [5] k (fun kq v5 w' => ∃ (x5_1 : Int), v5 = .int .i64 x5_1 ∧ Aside0 (spec_l4Has.l0 kq l0 a1 x5_1 = some r) ∧ Aside0 (kq ≤ k) ∧ Drawn0 w w')
 case atStart => exact ⟨(0), sm_, H', ⟨Nat.le_refl _⟩, dr_⟩
 case round =>
  clear H'
  try clear p2
  obtain ⟨x5_1, rfl, HA, HK1, ⟨m1, rfl⟩⟩ := hrel
  cases gk with
  | zero => exact absurd HA.out (by simp [spec_l4Has.l0])
  | succ k1 =>
   have H := HA.out
   clear HA
   simp only [spec_l4Has.l0] at H
   by_cases c3 : x5_1 < (l0.length : Int)
   ·rw [if_pos c3] at H
    have c3b0 : decide (x5_1 < (l0.length : Int)) = true := decide_eq_true c3
    clear c3
    by_cases c4 : 0 ≤ x5_1
    ·rw [if_pos c4] at H
     have c4b0 : decide (0 ≤ x5_1) = true := decide_eq_true c4
     clear c4
     by_cases c5 : (rd l0 x5_1) = a1
     ·rw [if_pos c5] at H
      have c5b0 : ((rd l0 x5_1) == a1) = true := beq_iff_eq.mpr c5
      have c5b1 : ((rd l0 x5_1) != a1) = false := bne_eq_false_iff_eq.mpr c5
      clear c5
      obtain rfl := Option.some.inj H
      have p119 : 0 ≤ (x5_1 : Int) := of_decide_eq_true as_
      have q119 : x5_1 < (l0.length : Int) := of_decide_eq_true as_
      obtain ⟨ad119, e119, hx119_0⟩ := Zo HR0.out x5_1 p119 q119
      cases e119
      replace p119 := eq_true p119
      replace q119 := eq_true q119
      go_wp2
      go_ret
      exact ⟨sm_, dr_⟩
     ·rw [if_neg c5] at H
      have c5b0 : ((rd l0 x5_1) == a1) = false := beq_eq_false_iff_ne.mpr c5
      have c5b1 : ((rd l0 x5_1) != a1) = true := bne_iff_ne.mpr c5
      have H' := Aside0.mk H
      clear H
      have p119 : 0 ≤ (x5_1 : Int) := of_decide_eq_true as_
      have q119 : x5_1 < (l0.length : Int) := of_decide_eq_true as_
      obtain ⟨ad119, e119, hx119_0⟩ := Zo HR0.out x5_1 p119 q119
      cases e119
      replace p119 := eq_true p119
      replace q119 := eq_true q119
      go_wp2
      go_roundg k1
      case measure => have := HK1.out; omega
      case rel => exact ⟨(wrap64 (x5_1 + 1)), sm_, H', ⟨by have := HK1.out; omega⟩, dr_⟩
    ·rw [if_neg c4] at H
     exact absurd H (by simp)
   ·rw [if_neg c3] at H
    have c3b0 : decide (x5_1 < (l0.length : Int)) = false := decide_eq_false c3
    clear c3
    obtain rfl := Option.some.inj H
    go_wp2
    go_ret
    exact ⟨sm_, dr_⟩

/-! ### spec_HitBy: function 93 -/
mutual
def spec_HitBy.l0 : Nat → List Int → List Int → Int → Int → List (List Int) → Option (List Int)
 | 0, _, _, _, _, _ => none
 | k + 1, x1, x5, x6, x121000, x121001 => if x6 < x121000 then ((spec_IsGraph.f k x121000 x121001).bind fun t124 => (spec_HitBy.j1 k x1 x5 x6 t124 x121000 x121001)) else (spec_HitBy.j1 k x1 x5 x6 false x121000 x121001)
def spec_HitBy.j1 : Nat → List Int → List Int → Int → Bool → Int → List (List Int) → Option (List Int)
 | 0, _, _, _, _, _, _ => none
 | k + 1, x1, x5, x6, x17, x121000, x121001 => if x17 = true then (spec_HitBy.l1 k x1 x5 x6 false 0 x121000 x121001) else (some x5)
def spec_HitBy.l1 : Nat → List Int → List Int → Int → Bool → Int → Int → List (List Int) → Option (List Int)
 | 0, _, _, _, _, _, _, _ => none
 | k + 1, x1, x5, x6, x7, x8, x121000, x121001 => if x8 < (x121001.length : Int) then (if x7 = true then (spec_HitBy.l1 k x1 x5 x6 true (wrap64 (x8 + 1)) x121000 x121001) else (if 0 ≤ x8 then (if 1 < ((rd_L1 x121001 x8).length : Int) then (if (rd (rd_L1 x121001 x8) 1) = x6 then (if 0 < ((rd_L1 x121001 x8).length : Int) then ((spec_l4Has.f k x1 (rd (rd_L1 x121001 x8) 0)).bind fun t129 => (spec_HitBy.l1 k x1 x5 x6 t129 (wrap64 (x8 + 1)) x121000 x121001)) else (none)) else (spec_HitBy.l1 k x1 x5 x6 false (wrap64 (x8 + 1)) x121000 x121001)) else (none)) else (none))) else (if x7 = true then (if x5.length < 17592186044416 then (spec_HitBy.l0 k x1 (x5 ++ [x6]) (wrap64 (x6 + 1)) x121000 x121001) else (none)) else (spec_HitBy.l0 k x1 x5 (wrap64 (x6 + 1)) x121000 x121001))
end
def spec_HitBy.f (k : Nat) (a0_0 : Int) (l0_1 : List (List Int)) (l1 : List Int) : Option (List Int) := spec_HitBy.l0 k l1 (([] : List Int)) 0 a0_0 l0_1
theorem spec_HitBy.mono_l : ∀ k, (∀ y0 y1 y2 y3 y4, LeO (spec_HitBy.l0 k y0 y1 y2 y3 y4) (spec_HitBy.l0 (k + 1) y0 y1 y2 y3 y4)) ∧ (∀ y0 y1 y2 y3 y4 y5, LeO (spec_HitBy.j1 k y0 y1 y2 y3 y4 y5) (spec_HitBy.j1 (k + 1) y0 y1 y2 y3 y4 y5)) ∧ (∀ y0 y1 y2 y3 y4 y5 y6, LeO (spec_HitBy.l1 k y0 y1 y2 y3 y4 y5 y6) (spec_HitBy.l1 (k + 1) y0 y1 y2 y3 y4 y5 y6))
 | 0 => ⟨fun _ _ _ _ _ r h => by simp [spec_HitBy.l0] at h, fun _ _ _ _ _ _ r h => by simp [spec_HitBy.j1] at h, fun _ _ _ _ _ _ _ r h => by simp [spec_HitBy.l1] at h⟩
 | k + 1 => by
  obtain ⟨ih0, ih1, ih2⟩ := spec_HitBy.mono_l k
  refine ⟨?_, ?_, ?_⟩
  ·intro y0 y1 y2 y3 y4
   unfold spec_HitBy.l0
   repeat' first
   | (with_reducible exact ih0 _ _ _ _ _)
   | (with_reducible exact ih1 _ _ _ _ _ _)
   | (with_reducible exact ih2 _ _ _ _ _ _ _)
   | (with_reducible exact spec_IsGraph.mono _ _ _)
   | (with_reducible exact spec_l4Has.mono _ _ _)
   | (with_reducible exact Zs _)
   | (with_reducible exact Zg _)
   | (with_reducible refine Zn ?_ ?_)
   | (with_reducible refine Zh ?_ (fun _ => ?_))
   | exact ih0 _ _ _ _ _
   | exact ih1 _ _ _ _ _ _
   | exact ih2 _ _ _ _ _ _ _
   | exact spec_IsGraph.mono _ _ _
   | exact spec_l4Has.mono _ _ _
   | exact Zg _
   | refine Zn ?_ ?_
   | refine Zh ?_ (fun _ => ?_)
  ·intro y0 y1 y2 y3 y4 y5
   unfold spec_HitBy.j1
   repeat' first
   | (with_reducible exact ih0 _ _ _ _ _)
   | (with_reducible exact ih1 _ _ _ _ _ _)
   | (with_reducible exact ih2 _ _ _ _ _ _ _)
   | (with_reducible exact spec_IsGraph.mono _ _ _)
   | (with_reducible exact spec_l4Has.mono _ _ _)
   | (with_reducible exact Zs _)
   | (with_reducible exact Zg _)
   | (with_reducible refine Zn ?_ ?_)
   | (with_reducible refine Zh ?_ (fun _ => ?_))
   | exact ih0 _ _ _ _ _
   | exact ih1 _ _ _ _ _ _
   | exact ih2 _ _ _ _ _ _ _
   | exact spec_IsGraph.mono _ _ _
   | exact spec_l4Has.mono _ _ _
   | exact Zg _
   | refine Zn ?_ ?_
   | refine Zh ?_ (fun _ => ?_)
  ·intro y0 y1 y2 y3 y4 y5 y6
   unfold spec_HitBy.l1
   repeat' first
   | (with_reducible exact ih0 _ _ _ _ _)
   | (with_reducible exact ih1 _ _ _ _ _ _)
   | (with_reducible exact ih2 _ _ _ _ _ _ _)
   | (with_reducible exact spec_IsGraph.mono _ _ _)
   | (with_reducible exact spec_l4Has.mono _ _ _)
   | (with_reducible exact Zs _)
   | (with_reducible exact Zg _)
   | (with_reducible refine Zn ?_ ?_)
   | (with_reducible refine Zh ?_ (fun _ => ?_))
   | exact ih0 _ _ _ _ _
   | exact ih1 _ _ _ _ _ _
   | exact ih2 _ _ _ _ _ _ _
   | exact spec_IsGraph.mono _ _ _
   | exact spec_l4Has.mono _ _ _
   | exact Zg _
   | refine Zn ?_ ?_
   | refine Zh ?_ (fun _ => ?_)
theorem spec_HitBy.mono : ∀ a0 a1 a2 k, LeO (spec_HitBy.f k a0 a1 a2) (spec_HitBy.f (k + 1) a0 a1 a2) := by
 intro a0 a1 a2 k
 obtain ⟨ih0, ih1, ih2⟩ := spec_HitBy.mono_l k
 unfold spec_HitBy.f
 repeat' first
   | (with_reducible exact ih0 _ _ _ _ _)
   | (with_reducible exact ih1 _ _ _ _ _ _)
   | (with_reducible exact ih2 _ _ _ _ _ _ _)
   | (with_reducible exact spec_IsGraph.mono _ _ _)
   | (with_reducible exact spec_l4Has.mono _ _ _)
   | (with_reducible exact Zs _)
   | (with_reducible exact Zg _)
   | (with_reducible refine Zn ?_ ?_)
   | (with_reducible refine Zh ?_ (fun _ => ?_))
   | exact ih0 _ _ _ _ _
   | exact ih1 _ _ _ _ _ _
   | exact ih2 _ _ _ _ _ _ _
   | exact spec_IsGraph.mono _ _ _
   | exact spec_l4Has.mono _ _ _
   | exact Zg _
   | refine Zn ?_ ?_
   | refine Zh ?_ (fun _ => ?_)
set_option maxHeartbeats 8000000 in
set_option maxRecDepth 100000 in
theorem spec_HitBy.calls (k : Nat) (a0_0 : Int) (A0_1 : Option Addr) (c0_1 : Nat) (l0_1 : List (List Int)) (A1 : Option Addr) (c1 : Nat) (l1 : List Int) (r : List Int) (w : World) (hr0_1 : Kd.C (Kd.slice 3 (Kd.int .i64)) w A0_1 l0_1.length l0_1) (hc0_1 : l0_1.length ≤ c0_1) (hr1 : Kd.C (Kd.int .i64) w A1 l1.length l1) (hc1 : l1.length ≤ c1) (h : spec_HitBy.f k a0_0 l0_1 l1 = some r) :
  Calls Try.prog 93 #[.agg #[.int .i64 a0_0, .slice A0_1 l0_1.length c0_1], .slice A1 l1.length c1] w fun e w' => ∃ v0_ : Value, e = .returned (v0_) ∧ Kd.R (Kd.int .i64) 3 w' w.heap.size (fun _ => True) v0_ r ∧ Below w.heap.size w w' := by
 have hu27 := Try.underlying27
 have HR0_1 := Aside0.mk hr0_1
 have HC0_1 := Aside0.mk hc0_1
 clear hr0_1 hc0_1
 have HR1 := Aside0.mk hr1
 have HC1 := Aside0.mk hc1
 clear hr1 hc1
 have HB := Aside0.mk (Below.refl w.heap.size w)
 have H : (spec_HitBy.l0 k l1 (([] : List Int)) 0 a0_0 l0_1) = some r := h
 clear h
 obtain ⟨y121, hy121⟩ : ∃ y_ : List Int, y_ = (([] : List Int)) := ⟨_, rfl⟩
 replace H : (spec_HitBy.l0 k l1 y121 0 a0_0 l0_1) = some r := hy_ hy121 H
 have Ny121 := Aside0.mk hy121
 clear hy121
 have H' := Aside0.mk H
 clear H
 go_enter Try.func93, Try.ntmps93
 go_wp2_with (first | ((with_reducible refine Zr (N := 2) rfl ?_); refine Zu ?hg (N := 2) ?hd (cs := #[.int .i64 a0_0, .slice A0_1 l0_1.length c0_1]) (t := 27) ?hr ?_; (case hd => rfl); (case hg => rfl); (case hr => first | (go_simp; done) | (go_simp; rfl)); intro gb120 hg w3 hbox hb; have n0_ := Aside0.mk (Zf hb_ hb); have n1_ := Aside0.mk (hbox); have n2_ := Aside0.mk ((hz_ hg : w.heap.size ≤ gb120)); have n3_ := Aside0.mk ((hz_ hg : w.heap.size ≤ gb120)); clear HB; have HB := n0_; have BK120 := n1_; have GW120 := n2_; have GE120 := n3_; clear n0_ n1_ n2_ n3_; clear hb hbox hg) | ((with_reducible refine Zr (N := 9) rfl ?_); refine Kd.R_lit (Kd.int .i64) _ 3 ?hg (N := 9) ?hd (xs := ([] : List Int)) (inner := []) (ok := fun _ => True) (okp := fun _ => True) ?hr ?hp (fun _ hk => hk) trivial (Below.refl _ _) (Nat.le_refl _) (by simp) ?_; (case hd => rfl); (case hg => rfl); (case hr => first | (go_simp; done) | (go_simp; rfl)); (case hp => exact (Reps.none _ _)); intro v122 w4 ho5 hb hg_ hnew_; clear hg_ hnew_; (first | rw [← Ny121.out] at ho5 | (simp only [Int.reduceToNat] at ho5; rw [← Ny121.out] at ho5)); have n0_ := Aside0.mk (Kd.R_lower ho5 (Zi hb_)); have n1_ := Aside0.mk (Zj (g := gb120) (o := .cells #[.int .i64 a0_0, .slice A0_1 l0_1.length c0_1] 27 (0, 0)) (bk_ BK120.out) hb); have n2_ := Aside0.mk (Zf hb_ hb); clear BK120; clear HB; have HO123 := n0_; have BK120 := n1_; have HB := n2_; clear n0_ n1_ n2_; clear hb ho5))
 go_loopg [5, 6] k (fun kq v5 v6 w' => ∃ (x5_1 : List Int) (x6_1 : Int), v6 = .int .i64 x6_1 ∧ Aside0 (spec_HitBy.l0 kq l1 x5_1 x6_1 a0_0 l0_1 = some r) ∧ Aside0 (kq ≤ k) ∧ Aside0 (Kd.R (Kd.int .i64) 3 w' w.heap.size (fun _ => True) v5 x5_1) ∧ Aside0 (w'.heap[gb120]? = some (.cells #[.int .i64 a0_0, (.slice A0_1 l0_1.length c0_1)] 27 (0, 0))) ∧ Aside0 (Below w.heap.size w w'))
 case atStart => exact ⟨(y121), (0), sm_, H', ⟨Nat.le_refl _⟩, ⟨rR_ HO123.out⟩, ⟨bk_ BK120.out⟩, ⟨hb_⟩⟩
 case round =>
  clear H'
  try clear c1
  try clear p2
  obtain ⟨x5_1, x6_1, rfl, HA, HK1, HO_5, BK120, HB⟩ := hrel
  cases gk with
  | zero => exact absurd HA.out (by simp [spec_HitBy.l0])
  | succ k1 =>
   have H := HA.out
   clear HA
   simp only [spec_HitBy.l0] at H
   have HC6 := Aside0.mk H
   clear H
   go_upto_region 3 with (fail)
   go_cut [17] (fun v17 wc => ∃ (kq : Nat) (x17_5 : Bool), v17 = .bool x17_5 ∧ Aside0 (spec_HitBy.j1 kq l1 x5_1 x6_1 x17_5 a0_0 l0_1 = some r) ∧ Aside0 (kq ≤ k1) ∧ Aside0 (Kd.R (Kd.int .i64) 3 wc w.heap.size (fun _ => True) u5 x5_1) ∧ Aside0 (wc.heap[gb120]? = some (.cells #[.int .i64 a0_0, (.slice A0_1 l0_1.length c0_1)] 27 (0, 0))) ∧ Aside0 (Below w.heap.size w wc))
   case first =>
    have H := HC6.out
    clear HC6
    by_cases c7 : x6_1 < a0_0
    ·rw [if_pos c7] at H
     have c7b0 : decide (x6_1 < a0_0) = true := decide_eq_true c7
     clear c7
     (first | rw [c7b0] | (simp only [Zk, Zm]; rw [c7b0]) | skip)
     replace H := Option.bind_eq_some_iff.mp H
     obtain ⟨t124, A80, H⟩ := H
     replace H : (spec_HitBy.j1 k1 l1 x5_1 x6_1 t124 a0_0 l0_1) = some r := H
     have A8 := Aside0.mk A80
     clear A80
     have H' := Aside0.mk H
     clear H
     have hcz9_0 : wr.cell? ⟨gb120, 0, none⟩ = some (.int .i64 a0_0) := (Ze BK120.out 0).trans rfl
     have hcz9_1 : wr.cell? ⟨gb120, 1, none⟩ = some (.slice A0_1 l0_1.length c0_1) := (Ze BK120.out 1).trans rfl
     have hfz9_0 := Zd BK120.out 0
     have hfz9_1 := Zd BK120.out 1
     go_wp2_with (first | (go_at_call 57; (with_reducible refine (spec_IsGraph.calls k1 a0_0 _ _ l0_1 t124 _ ?side1 ?side2 A8.out).mono ?_); (case side1 => exact cb_ HR0_1.out); (case side2 => exact HC0_1.out); rintro e w10 ⟨rfl, hb⟩; have n0_ := Aside0.mk (Kd.R_below (rR_ HO_5.out) hb); have n1_ := Aside0.mk (Zj (g := gb120) (o := .cells #[.int .i64 a0_0, .slice A0_1 l0_1.length c0_1] 27 (0, 0)) (bk_ BK120.out) hb); have n2_ := Aside0.mk (Zf hb_ hb); clear HO_5; clear BK120; clear HB; have HO_5 := n0_; have BK120 := n1_; have HB := n2_; clear n0_ n1_ n2_; (try clear hb); (try clear hb2); (try clear hk); (try clear hi)))
     go_meet
     case rel => exact ⟨_, (t124), sm_, H', ⟨by have := HK1.out; first | omega | exact Nat.le_refl _⟩, ⟨rR_ HO_5.out⟩, ⟨bk_ BK120.out⟩, ⟨hb_⟩⟩
    ·rw [if_neg c7] at H
     have c7b0 : decide (x6_1 < a0_0) = false := decide_eq_false c7
     clear c7
     (first | rw [c7b0] | (simp only [Zk, Zm]; rw [c7b0]) | skip)
     have H' := Aside0.mk H
     clear H
     have hcz11_0 : wr.cell? ⟨gb120, 0, none⟩ = some (.int .i64 a0_0) := (Ze BK120.out 0).trans rfl
     have hcz11_1 : wr.cell? ⟨gb120, 1, none⟩ = some (.slice A0_1 l0_1.length c0_1) := (Ze BK120.out 1).trans rfl
     have hfz11_0 := Zd BK120.out 0
     have hfz11_1 := Zd BK120.out 1
     go_wp2
     go_meet
     case rel => exact ⟨_, (false), sm_, H', ⟨by have := HK1.out; first | omega | exact Nat.le_refl _⟩, ⟨rR_ HO_5.out⟩, ⟨bk_ BK120.out⟩, ⟨hb_⟩⟩
   case rest =>
    clear HC6
    try clear c1
    try clear p2
    try clear c7
    try clear c7b0
    try clear c9
    try clear hcz11_0
    try clear hcz11_1
    try clear hcz9_0
    try clear hcz9_1
    try clear hfz11_0
    try clear hfz11_1
    try clear hfz9_0
    try clear hfz9_1
    try clear p2
    obtain ⟨kq, x17_5, rfl, HA, HJ5, HO_5, BK120, HB⟩ := hcut
    cases kq with
    | zero => exact absurd HA.out (by simp [spec_HitBy.j1])
    | succ kj5 =>
     have H := HA.out
     clear HA
     simp only [spec_HitBy.j1] at H
     by_cases c12 : x17_5 = true
     ·subst c12
      have H1 : (spec_HitBy.l1 kj5 l1 x5_1 x6_1 false 0 a0_0 l0_1) = some r := by rw [if_pos rfl] at H; exact H
      clear H
      have H := H1
      clear H1
      have H' := Aside0.mk H
      clear H
      go_wp2
      go_loopg [7, 8] kj5 (fun kq v7 v8 w' => ∃ (x7_3 : Bool) (x8_3 : Int), v7 = .bool x7_3 ∧ v8 = .int .i64 x8_3 ∧ Aside0 (spec_HitBy.l1 kq l1 x5_1 x6_1 x7_3 x8_3 a0_0 l0_1 = some r) ∧ Aside0 (kq ≤ kj5) ∧ Aside0 (Kd.R (Kd.int .i64) 3 w' w.heap.size (fun _ => True) u5 x5_1) ∧ Aside0 (w'.heap[gb120]? = some (.cells #[.int .i64 a0_0, (.slice A0_1 l0_1.length c0_1)] 27 (0, 0))) ∧ Aside0 (Below w.heap.size w w'))
      case atStart => exact ⟨(false), (0), sm_, sm_, H', ⟨Nat.le_refl _⟩, ⟨rR_ HO_5.out⟩, ⟨bk_ BK120.out⟩, ⟨hb_⟩⟩
      case round =>
       clear H'
       try clear c1
       try clear p2
       try clear c7
       try clear c7b0
       try clear c9
       try clear c12
       try clear hcz11_0
       try clear hcz11_1
       try clear hcz9_0
       try clear hcz9_1
       try clear hfz11_0
       try clear hfz11_1
       try clear hfz9_0
       try clear hfz9_1
       try clear p2
       obtain ⟨x7_3, x8_3, rfl, rfl, HA, HK3, HO_5, BK120, HB⟩ := hrel
       cases gk with
       | zero => exact absurd HA.out (by simp [spec_HitBy.l1])
       | succ k3 =>
        have H := HA.out
        clear HA
        simp only [spec_HitBy.l1] at H
        by_cases c13 : x8_3 < (l0_1.length : Int)
        ·rw [if_pos c13] at H
         have c13b0 : decide (x8_3 < (l0_1.length : Int)) = true := decide_eq_true c13
         clear c13
         by_cases c14 : x7_3 = true
         ·subst c14
          have H1 : (spec_HitBy.l1 k3 l1 x5_1 x6_1 true (wrap64 (x8_3 + 1)) a0_0 l0_1) = some r := by rw [if_pos rfl] at H; exact H
          clear H
          have H := H1
          clear H1
          have H' := Aside0.mk H
          clear H
          have hcz15_0 : wr.cell? ⟨gb120, 0, none⟩ = some (.int .i64 a0_0) := (Ze BK120.out 0).trans rfl
          have hcz15_1 : wr.cell? ⟨gb120, 1, none⟩ = some (.slice A0_1 l0_1.length c0_1) := (Ze BK120.out 1).trans rfl
          have hfz15_0 := Zd BK120.out 0
          have hfz15_1 := Zd BK120.out 1
          go_wp2
          go_roundg k3
          case measure => have := HK1.out; have := HJ5.out; have := HK3.out; omega
          case rel => exact ⟨(true), (wrap64 (x8_3 + 1)), sm_, sm_, H', ⟨by have := HK1.out; have := HJ5.out; have := HK3.out; omega⟩, ⟨rR_ HO_5.out⟩, ⟨bk_ BK120.out⟩, ⟨hb_⟩⟩
         ·replace c14 := Bool.eq_false_iff.mpr c14
          subst c14
          have H1 : (if 0 ≤ x8_3 then (if 1 < ((rd_L1 l0_1 x8_3).length : Int) then (if (rd (rd_L1 l0_1 x8_3) 1) = x6_1 then (if 0 < ((rd_L1 l0_1 x8_3).length : Int) then ((spec_l4Has.f k3 l1 (rd (rd_L1 l0_1 x8_3) 0)).bind fun t129 => (spec_HitBy.l1 k3 l1 x5_1 x6_1 t129 (wrap64 (x8_3 + 1)) a0_0 l0_1)) else (none)) else (spec_HitBy.l1 k3 l1 x5_1 x6_1 false (wrap64 (x8_3 + 1)) a0_0 l0_1)) else (none)) else (none)) = some r := by rw [if_neg (show ¬ (false = true) by decide)] at H; exact H
          clear H
          have H := H1
          clear H1
          by_cases c16 : 0 ≤ x8_3
          ·rw [if_pos c16] at H
           have c16b0 : decide (0 ≤ x8_3) = true := decide_eq_true c16
           clear c16
           by_cases c17 : 1 < ((rd_L1 l0_1 x8_3).length : Int)
           ·rw [if_pos c17] at H
            have c17b0 : decide (1 < ((rd_L1 l0_1 x8_3).length : Int)) = true := decide_eq_true c17
            have c17b1 : decide (1 < (rd_L1 l0_1 x8_3).length) = true := decide_eq_true (by omega)
            clear c17
            by_cases c18 : (rd (rd_L1 l0_1 x8_3) 1) = x6_1
            ·rw [if_pos c18] at H
             have c18b0 : ((rd (rd_L1 l0_1 x8_3) 1) == x6_1) = true := beq_iff_eq.mpr c18
             have c18b1 : ((rd (rd_L1 l0_1 x8_3) 1) != x6_1) = false := bne_eq_false_iff_eq.mpr c18
             clear c18
             by_cases c19 : 0 < ((rd_L1 l0_1 x8_3).length : Int)
             ·rw [if_pos c19] at H
              have c19b0 : decide (0 < ((rd_L1 l0_1 x8_3).length : Int)) = true := decide_eq_true c19
              have c19b1 : decide (0 < (rd_L1 l0_1 x8_3).length) = true := decide_eq_true (by omega)
              clear c19
              replace H := Option.bind_eq_some_iff.mp H
              obtain ⟨t129, A200, H⟩ := H
              replace H : (spec_HitBy.l1 k3 l1 x5_1 x6_1 t129 (wrap64 (x8_3 + 1)) a0_0 l0_1) = some r := H
              have A20 := Aside0.mk A200
              clear A200
              have H' := Aside0.mk H
              clear H
              have hcz21_0 : wr.cell? ⟨gb120, 0, none⟩ = some (.int .i64 a0_0) := (Ze BK120.out 0).trans rfl
              have hcz21_1 : wr.cell? ⟨gb120, 1, none⟩ = some (.slice A0_1 l0_1.length c0_1) := (Ze BK120.out 1).trans rfl
              have hfz21_0 := Zd BK120.out 0
              have hfz21_1 := Zd BK120.out 1
              have p125 : 0 ≤ (x8_3 : Int) := of_decide_eq_true as_
              have q125 : x8_3 < (l0_1.length : Int) := of_decide_eq_true as_
              obtain ⟨ad125, A125_0, c125_0, e125, hx125_0, hl125_0, hi125_0⟩ := at_L1 HR0_1.out x8_3 p125 q125
              cases e125
              replace hx125_0 := (HB.out.cell (World.block_lt_of_cell? w _ hx125_0)).trans hx125_0
              have HR125_0 := Aside0.mk hi125_0
              have HC125_0 := Aside0.mk hl125_0
              clear hi125_0 hl125_0
              replace p125 := eq_true p125
              replace q125 := eq_true q125
              have p126 : 0 ≤ (1 : Int) := (by omega)
              have q126 : 1 < ((rd_L1 l0_1 x8_3).length : Int) := of_decide_eq_true as_
              obtain ⟨ad126, e126, hx126_0⟩ := Zo HR125_0.out 1 p126 q126
              cases e126
              (try simp only [show (1 : Int).toNat = 1 from rfl, Nat.reduceMul, Nat.reduceEqDiff, Go.Addr.add, ↓reduceIte] at hx126_0)
              have qi126 : (1 < (rd_L1 l0_1 x8_3).length) = True := eq_true (by omega)
              (try rw [show ((1 : Int)).toNat = 1 from rfl] at hx126_0)
              replace hx126_0 := (HB.out.cell (World.block_lt_of_cell? w _ hx126_0)).trans hx126_0
              replace p126 := eq_true p126
              replace q126 := eq_true q126
              have p127 : 0 ≤ (x8_3 : Int) := of_decide_eq_true as_
              have q127 : x8_3 < (l0_1.length : Int) := of_decide_eq_true as_
              obtain ⟨ad127, A127_0, c127_0, e127, hx127_0, hl127_0, hi127_0⟩ := at_L1 HR0_1.out x8_3 p127 q127
              obtain rfl : ad125 = ad127 := (by injection e127)
              replace hx127_0 := (HB.out.cell (World.block_lt_of_cell? w _ hx127_0)).trans hx127_0
              have HR127_0 := Aside0.mk hi127_0
              have HC127_0 := Aside0.mk hl127_0
              clear hi127_0 hl127_0
              replace p127 := eq_true p127
              replace q127 := eq_true q127
              have ea_ := Option.some.inj (hx125_0.symm.trans hx127_0)
              injection ea_ with ea_ en_ ec_
              subst ea_
              subst ec_
              clear en_
              have p128 : 0 ≤ (0 : Int) := (by omega)
              have q128 : 0 < ((rd_L1 l0_1 x8_3).length : Int) := of_decide_eq_true as_
              obtain ⟨ad128, e128, hx128_0⟩ := Zo HR127_0.out 0 p128 q128
              cases e128
              have qi128 : (0 < (rd_L1 l0_1 x8_3).length) = True := eq_true (by omega)
              (try rw [show ((0 : Int)).toNat = 0 from rfl] at hx128_0)
              (try rw [Addr.add_zero'] at hx128_0)
              replace hx128_0 := (HB.out.cell (World.block_lt_of_cell? w _ hx128_0)).trans hx128_0
              replace p128 := eq_true p128
              replace q128 := eq_true q128
              go_wp2_with (first | (go_at_call 46; (with_reducible refine (spec_l4Has.calls k3 _ _ l1 (rd (rd_L1 l0_1 x8_3) 0) t129 _ ?side1 ?side2 A20.out).mono ?_); (case side1 => exact cb_ HR1.out); (case side2 => exact HC1.out); rintro e w' ⟨rfl, ⟨nd, rfl⟩⟩))
              go_roundg k3
              case measure => have := HK1.out; have := HJ5.out; have := HK3.out; omega
              case rel => exact ⟨(t129), (wrap64 (x8_3 + 1)), sm_, sm_, H', ⟨by have := HK1.out; have := HJ5.out; have := HK3.out; omega⟩, ⟨rR_ HO_5.out⟩, ⟨bk_ BK120.out⟩, ⟨hb_⟩⟩
             ·rw [if_neg c19] at H
              exact absurd H (by simp)
            ·rw [if_neg c18] at H
             have c18b0 : ((rd (rd_L1 l0_1 x8_3) 1) == x6_1) = false := beq_eq_false_iff_ne.mpr c18
             have c18b1 : ((rd (rd_L1 l0_1 x8_3) 1) != x6_1) = true := bne_iff_ne.mpr c18
             have H' := Aside0.mk H
             clear H
             have hcz22_0 : wr.cell? ⟨gb120, 0, none⟩ = some (.int .i64 a0_0) := (Ze BK120.out 0).trans rfl
             have hcz22_1 : wr.cell? ⟨gb120, 1, none⟩ = some (.slice A0_1 l0_1.length c0_1) := (Ze BK120.out 1).trans rfl
             have hfz22_0 := Zd BK120.out 0
             have hfz22_1 := Zd BK120.out 1
             have p125 : 0 ≤ (x8_3 : Int) := of_decide_eq_true as_
             have q125 : x8_3 < (l0_1.length : Int) := of_decide_eq_true as_
             obtain ⟨ad125, A125_0, c125_0, e125, hx125_0, hl125_0, hi125_0⟩ := at_L1 HR0_1.out x8_3 p125 q125
             cases e125
             replace hx125_0 := (HB.out.cell (World.block_lt_of_cell? w _ hx125_0)).trans hx125_0
             have HR125_0 := Aside0.mk hi125_0
             have HC125_0 := Aside0.mk hl125_0
             clear hi125_0 hl125_0
             replace p125 := eq_true p125
             replace q125 := eq_true q125
             have p126 : 0 ≤ (1 : Int) := (by omega)
             have q126 : 1 < ((rd_L1 l0_1 x8_3).length : Int) := of_decide_eq_true as_
             obtain ⟨ad126, e126, hx126_0⟩ := Zo HR125_0.out 1 p126 q126
             cases e126
             (try simp only [show (1 : Int).toNat = 1 from rfl, Nat.reduceMul, Nat.reduceEqDiff, Go.Addr.add, ↓reduceIte] at hx126_0)
             have qi126 : (1 < (rd_L1 l0_1 x8_3).length) = True := eq_true (by omega)
             (try rw [show ((1 : Int)).toNat = 1 from rfl] at hx126_0)
             replace hx126_0 := (HB.out.cell (World.block_lt_of_cell? w _ hx126_0)).trans hx126_0
             replace p126 := eq_true p126
             replace q126 := eq_true q126
             go_wp2
             go_roundg k3
             case measure => have := HK1.out; have := HJ5.out; have := HK3.out; omega
             case rel => exact ⟨(false), (wrap64 (x8_3 + 1)), sm_, sm_, H', ⟨by have := HK1.out; have := HJ5.out; have := HK3.out; omega⟩, ⟨rR_ HO_5.out⟩, ⟨bk_ BK120.out⟩, ⟨hb_⟩⟩
           ·rw [if_neg c17] at H
            exact absurd H (by simp)
          ·rw [if_neg c16] at H
           exact absurd H (by simp)
        ·rw [if_neg c13] at H
         have c13b0 : decide (x8_3 < (l0_1.length : Int)) = false := decide_eq_false c13
         clear c13
         by_cases c23 : x7_3 = true
         ·subst c23
          have H1 : (if x5_1.length < 17592186044416 then (spec_HitBy.l0 k3 l1 (x5_1 ++ [x6_1]) (wrap64 (x6_1 + 1)) a0_0 l0_1) else (none)) = some r := by rw [if_pos rfl] at H; exact H
          clear H
          have H := H1
          clear H1
          by_cases c24 : x5_1.length < 17592186044416
          ·rw [if_pos c24] at H
           have LMc24 := Aside0.mk c24
           clear c24
           obtain ⟨y130, hy130⟩ : ∃ y_ : List Int, y_ = (x5_1 ++ [x6_1]) := ⟨_, rfl⟩
           replace H : (spec_HitBy.l0 k3 l1 y130 (wrap64 (x6_1 + 1)) a0_0 l0_1) = some r := hy_ hy130 H
           have Ny130 := Aside0.mk hy130
           clear hy130
           have H' := Aside0.mk H
           clear H
           have hcz25_0 : wr.cell? ⟨gb120, 0, none⟩ = some (.int .i64 a0_0) := (Ze BK120.out 0).trans rfl
           have hcz25_1 : wr.cell? ⟨gb120, 1, none⟩ = some (.slice A0_1 l0_1.length c0_1) := (Ze BK120.out 1).trans rfl
           have hfz25_0 := Zd BK120.out 0
           have hfz25_1 := Zd BK120.out 1
           go_wp2_with (first | ((with_reducible refine gate_builtin (b := .append) (xs := #[.tmp 51, .tmp 53]) rfl ?_); at_builtin; refine Kd.R_append (Kd.int .i64) (w0 := w) w.heap.size rfl (.tmp 51) (.tmp 53) 38 3 (.int .i64 0) 8 rfl Try.underlying38 info3 rfl (by decide) (by omega) u5 x5_1 x6_1 [.int .i64 x6_1] (fun _ => True) (fun _ => False) rfl rfl ?aP (fun _ hk => hk.elim) ?aF ?aO ?aB ?aS ?aL ?_; (case aP => exact rfl); (case aB => exact hb_); (case aF => exact (fun _ _ => trivial)); (case aO => exact (rR_ HO_5.out)); (case aS => exact (Zi hb_)); (case aL => have := LMc24.out; omega); intro v131 w26 ho hb hg hat; rw [← Ny130.out] at ho; have n0_ := Aside0.mk (blk_grown (g := gb120) (o := .cells #[.int .i64 a0_0, .slice A0_1 l0_1.length c0_1] 27 (0, 0)) (bk_ BK120.out) hg (Kd.R_ne HO_5.out BK120.out (by decide))); have n1_ := Aside0.mk (hb); have n2_ := Aside0.mk (ho); clear BK120; clear HB; clear HO_5; have BK120 := n0_; have HB := n1_; have HO132 := n2_; clear n0_ n1_ n2_; clear ho hb hg hat))
           go_roundg k3
           case measure => have := HK1.out; have := HJ5.out; have := HK3.out; omega
           case rel => exact ⟨(y130), (wrap64 (x6_1 + 1)), sm_, H', ⟨by have := HK1.out; have := HJ5.out; have := HK3.out; omega⟩, ⟨rR_ HO132.out⟩, ⟨bk_ BK120.out⟩, ⟨hb_⟩⟩
          ·rw [if_neg c24] at H
           exact absurd H (by simp)
         ·replace c23 := Bool.eq_false_iff.mpr c23
          subst c23
          have H1 : (spec_HitBy.l0 k3 l1 x5_1 (wrap64 (x6_1 + 1)) a0_0 l0_1) = some r := by rw [if_neg (show ¬ (false = true) by decide)] at H; exact H
          clear H
          have H := H1
          clear H1
          have H' := Aside0.mk H
          clear H
          have hcz27_0 : wr.cell? ⟨gb120, 0, none⟩ = some (.int .i64 a0_0) := (Ze BK120.out 0).trans rfl
          have hcz27_1 : wr.cell? ⟨gb120, 1, none⟩ = some (.slice A0_1 l0_1.length c0_1) := (Ze BK120.out 1).trans rfl
          have hfz27_0 := Zd BK120.out 0
          have hfz27_1 := Zd BK120.out 1
          go_wp2
          go_roundg k3
          case measure => have := HK1.out; have := HJ5.out; have := HK3.out; omega
          case rel => exact ⟨(x5_1), (wrap64 (x6_1 + 1)), sm_, H', ⟨by have := HK1.out; have := HJ5.out; have := HK3.out; omega⟩, ⟨rR_ HO_5.out⟩, ⟨bk_ BK120.out⟩, ⟨hb_⟩⟩
     ·replace c12 := Bool.eq_false_iff.mpr c12
      subst c12
      have H1 : (some x5_1) = some r := by rw [if_neg (show ¬ (false = true) by decide)] at H; exact H
      clear H
      have H := H1
      clear H1
      obtain rfl := Option.some.inj H
      go_wp2
      go_ret
      exact ⟨_, er_, rR_ HO_5.out, hb_⟩

/-! ### spec_IsSet: function 94 -/
def spec_IsSet.l0 : Nat → List Int → Int → Int → List (List Int) → Option (Bool)
 | 0, _, _, _, _ => none
 | k + 1, x1, x5, x134000, x134001 => if x5 < (x1.length : Int) then (if 0 ≤ x5 then ((spec_l1In.f (rd x1 x5) 0 (wrap64 (x134000 - 1))).bind fun t136 => (if t136 = true then (if x5 > 0 then (if 0 ≤ (wrap64 (x5 - 1)) then (if (wrap64 (x5 - 1)) < (x1.length : Int) then (if (rd x1 (wrap64 (x5 - 1))) ≥ (rd x1 x5) then (some false) else (spec_IsSet.l0 k x1 (wrap64 (x5 + 1)) x134000 x134001)) else (none)) else (none)) else (spec_IsSet.l0 k x1 (wrap64 (x5 + 1)) x134000 x134001)) else (some false))) else (none)) else (some true)
def spec_IsSet.f (k : Nat) (a0_0 : Int) (l0_1 : List (List Int)) (l1 : List Int) : Option (Bool) := (spec_IsGraph.f k a0_0 l0_1).bind fun t134 => (if t134 = true then (spec_IsSet.l0 k l1 0 a0_0 l0_1) else (some false))
theorem spec_IsSet.mono_l : ∀ k, (∀ y0 y1 y2 y3, LeO (spec_IsSet.l0 k y0 y1 y2 y3) (spec_IsSet.l0 (k + 1) y0 y1 y2 y3))
 | 0 => fun _ _ _ _ r h => by simp [spec_IsSet.l0] at h
 | k + 1 => by
  have ih0 := spec_IsSet.mono_l k
  ·intro y0 y1 y2 y3
   unfold spec_IsSet.l0
   repeat' first
   | (with_reducible exact ih0 _ _ _ _)
   | (with_reducible exact spec_IsGraph.mono _ _ _)
   | (with_reducible exact Zs _)
   | (with_reducible exact Zg _)
   | (with_reducible refine Zn ?_ ?_)
   | (with_reducible refine Zh ?_ (fun _ => ?_))
   | exact ih0 _ _ _ _
   | exact spec_IsGraph.mono _ _ _
   | exact Zg _
   | refine Zn ?_ ?_
   | refine Zh ?_ (fun _ => ?_)
theorem spec_IsSet.mono : ∀ a0 a1 a2 k, LeO (spec_IsSet.f k a0 a1 a2) (spec_IsSet.f (k + 1) a0 a1 a2) := by
 intro a0 a1 a2 k
 have ih0 := spec_IsSet.mono_l k
 unfold spec_IsSet.f
 repeat' first
   | (with_reducible exact ih0 _ _ _ _)
   | (with_reducible exact spec_IsGraph.mono _ _ _)
   | (with_reducible exact Zs _)
   | (with_reducible exact Zg _)
   | (with_reducible refine Zn ?_ ?_)
   | (with_reducible refine Zh ?_ (fun _ => ?_))
   | exact ih0 _ _ _ _
   | exact spec_IsGraph.mono _ _ _
   | exact Zg _
   | refine Zn ?_ ?_
   | refine Zh ?_ (fun _ => ?_)
set_option maxHeartbeats 8000000 in
set_option maxRecDepth 100000 in
theorem spec_IsSet.calls (k : Nat) (a0_0 : Int) (A0_1 : Option Addr) (c0_1 : Nat) (l0_1 : List (List Int)) (A1 : Option Addr) (c1 : Nat) (l1 : List Int) (r : Bool) (w : World) (hr0_1 : Kd.C (Kd.slice 3 (Kd.int .i64)) w A0_1 l0_1.length l0_1) (hc0_1 : l0_1.length ≤ c0_1) (hr1 : Kd.C (Kd.int .i64) w A1 l1.length l1) (hc1 : l1.length ≤ c1) (h : spec_IsSet.f k a0_0 l0_1 l1 = some r) :
  Calls Try.prog 94 #[.agg #[.int .i64 a0_0, .slice A0_1 l0_1.length c0_1], .slice A1 l1.length c1] w fun e w' => e = .returned (.bool r) ∧ Below w.heap.size w w' := by
 have hu27 := Try.underlying27
 have HR0_1 := Aside0.mk hr0_1
 have HC0_1 := Aside0.mk hc0_1
 clear hr0_1 hc0_1
 have HR1 := Aside0.mk hr1
 have HC1 := Aside0.mk hc1
 clear hr1 hc1
 have HB := Aside0.mk (Below.refl w.heap.size w)
 have H : ((spec_IsGraph.f k a0_0 l0_1).bind fun t134 => (if t134 = true then (spec_IsSet.l0 k l1 0 a0_0 l0_1) else (some false))) = some r := h
 clear h
 replace H := Option.bind_eq_some_iff.mp H
 obtain ⟨t134, A30, H⟩ := H
 replace H : (if t134 = true then (spec_IsSet.l0 k l1 0 a0_0 l0_1) else (some false)) = some r := H
 have A3 := Aside0.mk A30
 clear A30
 by_cases c4 : t134 = true
 ·subst c4
  have H1 : (spec_IsSet.l0 k l1 0 a0_0 l0_1) = some r := by rw [if_pos rfl] at H; exact H
  clear H
  have H := H1
  clear H1
  have H' := Aside0.mk H
  clear H
  go_enter Try.func94, Try.ntmps94
  go_wp2_with (first | ((with_reducible refine Zr (N := 2) rfl ?_); refine Zu ?hg (N := 2) ?hd (cs := #[.int .i64 a0_0, .slice A0_1 l0_1.length c0_1]) (t := 27) ?hr ?_; (case hd => rfl); (case hg => rfl); (case hr => first | (go_simp; done) | (go_simp; rfl)); intro gb133 hg w5 hbox hb; have n0_ := Aside0.mk (Zf hb_ hb); have n1_ := Aside0.mk (hbox); have n2_ := Aside0.mk ((hz_ hg : w.heap.size ≤ gb133)); have n3_ := Aside0.mk ((hz_ hg : w.heap.size ≤ gb133)); clear HB; have HB := n0_; have BK133 := n1_; have GW133 := n2_; have GE133 := n3_; clear n0_ n1_ n2_ n3_; clear hb hbox hg; have hcz6_0 : w5.cell? ⟨gb133, 0, none⟩ = some (.int .i64 a0_0) := (Ze BK133.out 0).trans rfl; have hcz6_1 : w5.cell? ⟨gb133, 1, none⟩ = some (.slice A0_1 l0_1.length c0_1) := (Ze BK133.out 1).trans rfl; have hfz6_0 := Zd BK133.out 0; have hfz6_1 := Zd BK133.out 1) | (go_at_call 57; (with_reducible refine (spec_IsGraph.calls k a0_0 _ _ l0_1 true _ ?side1 ?side2 A3.out).mono ?_); (case side1 => exact cb_ HR0_1.out); (case side2 => exact HC0_1.out); rintro e w7 ⟨rfl, hb⟩; have n0_ := Aside0.mk (Zj (g := gb133) (o := .cells #[.int .i64 a0_0, .slice A0_1 l0_1.length c0_1] 27 (0, 0)) (bk_ BK133.out) hb); have n1_ := Aside0.mk (Zf hb_ hb); clear BK133; clear HB; have BK133 := n0_; have HB := n1_; clear n0_ n1_; (try clear hb); (try clear hb2); (try clear hk); (try clear hi)))
  repeat (go_quiet (first | ((with_reducible refine Zr (N := 2) rfl ?_); refine Zu ?hg (N := 2) ?hd (cs := #[.int .i64 a0_0, .slice A0_1 l0_1.length c0_1]) (t := 27) ?hr ?_; (case hd => rfl); (case hg => rfl); (case hr => first | (go_simp; done) | (go_simp; rfl)); intro gb133 hg w5 hbox hb; have n0_ := Aside0.mk (Zf hb_ hb); have n1_ := Aside0.mk (hbox); have n2_ := Aside0.mk ((hz_ hg : w.heap.size ≤ gb133)); have n3_ := Aside0.mk ((hz_ hg : w.heap.size ≤ gb133)); clear HB; have HB := n0_; have BK133 := n1_; have GW133 := n2_; have GE133 := n3_; clear n0_ n1_ n2_ n3_; clear hb hbox hg; have hcz6_0 : w5.cell? ⟨gb133, 0, none⟩ = some (.int .i64 a0_0) := (Ze BK133.out 0).trans rfl; have hcz6_1 : w5.cell? ⟨gb133, 1, none⟩ = some (.slice A0_1 l0_1.length c0_1) := (Ze BK133.out 1).trans rfl; have hfz6_0 := Zd BK133.out 0; have hfz6_1 := Zd BK133.out 1) | (go_at_call 57; (with_reducible refine (spec_IsGraph.calls k a0_0 _ _ l0_1 true _ ?side1 ?side2 A3.out).mono ?_); (case side1 => exact cb_ HR0_1.out); (case side2 => exact HC0_1.out); rintro e w7 ⟨rfl, hb⟩; have n0_ := Aside0.mk (Zj (g := gb133) (o := .cells #[.int .i64 a0_0, .slice A0_1 l0_1.length c0_1] 27 (0, 0)) (bk_ BK133.out) hb); have n1_ := Aside0.mk (Zf hb_ hb); clear BK133; clear HB; have BK133 := n0_; have HB := n1_; clear n0_ n1_; (try clear hb); (try clear hb2); (try clear hk); (try clear hi))); try go_wp2_with (first | ((with_reducible refine Zr (N := 2) rfl ?_); refine Zu ?hg (N := 2) ?hd (cs := #[.int .i64 a0_0, .slice A0_1 l0_1.length c0_1]) (t := 27) ?hr ?_; (case hd => rfl); (case hg => rfl); (case hr => first | (go_simp; done) | (go_simp; rfl)); intro gb133 hg w5 hbox hb; have n0_ := Aside0.mk (Zf hb_ hb); have n1_ := Aside0.mk (hbox); have n2_ := Aside0.mk ((hz_ hg : w.heap.size ≤ gb133)); have n3_ := Aside0.mk ((hz_ hg : w.heap.size ≤ gb133)); clear HB; have HB := n0_; have BK133 := n1_; have GW133 := n2_; have GE133 := n3_; clear n0_ n1_ n2_ n3_; clear hb hbox hg; have hcz6_0 : w5.cell? ⟨gb133, 0, none⟩ = some (.int .i64 a0_0) := (Ze BK133.out 0).trans rfl; have hcz6_1 : w5.cell? ⟨gb133, 1, none⟩ = some (.slice A0_1 l0_1.length c0_1) := (Ze BK133.out 1).trans rfl; have hfz6_0 := Zd BK133.out 0; have hfz6_1 := Zd BK133.out 1) | (go_at_call 57; (with_reducible refine (spec_IsGraph.calls k a0_0 _ _ l0_1 true _ ?side1 ?side2 A3.out).mono ?_); (case side1 => exact cb_ HR0_1.out); (case side2 => exact HC0_1.out); rintro e w7 ⟨rfl, hb⟩; have n0_ := Aside0.mk (Zj (g := gb133) (o := .cells #[.int .i64 a0_0, .slice A0_1 l0_1.length c0_1] 27 (0, 0)) (bk_ BK133.out) hb); have n1_ := Aside0.mk (Zf hb_ hb); clear BK133; clear HB; have BK133 := n0_; have HB := n1_; clear n0_ n1_; (try clear hb); (try clear hb2); (try clear hk); (try clear hi))))
  go_loopg [5] k (fun kq v5 w' => ∃ (x5_1 : Int), v5 = .int .i64 x5_1 ∧ Aside0 (spec_IsSet.l0 kq l1 x5_1 a0_0 l0_1 = some r) ∧ Aside0 (kq ≤ k) ∧ Aside0 (w'.heap[gb133]? = some (.cells #[.int .i64 a0_0, (.slice A0_1 l0_1.length c0_1)] 27 (0, 0))) ∧ Aside0 (Below w.heap.size w w'))
  case atStart => exact ⟨(0), sm_, H', ⟨Nat.le_refl _⟩, ⟨bk_ BK133.out⟩, ⟨hb_⟩⟩
  case round =>
   clear H'
   try clear c1
   try clear p2
   try clear c4
   try clear hcz6_0
   try clear hcz6_1
   try clear hfz6_0
   try clear hfz6_1
   obtain ⟨x5_1, rfl, HA, HK1, BK133, HB⟩ := hrel
   cases gk with
   | zero => exact absurd HA.out (by simp [spec_IsSet.l0])
   | succ k1 =>
    have H := HA.out
    clear HA
    simp only [spec_IsSet.l0] at H
    by_cases c8 : x5_1 < (l1.length : Int)
    ·rw [if_pos c8] at H
     have c8b0 : decide (x5_1 < (l1.length : Int)) = true := decide_eq_true c8
     clear c8
     by_cases c9 : 0 ≤ x5_1
     ·rw [if_pos c9] at H
      have c9b0 : decide (0 ≤ x5_1) = true := decide_eq_true c9
      clear c9
      replace H := Option.bind_eq_some_iff.mp H
      obtain ⟨t136, A100, H⟩ := H
      replace H : (if t136 = true then (if x5_1 > 0 then (if 0 ≤ (wrap64 (x5_1 - 1)) then (if (wrap64 (x5_1 - 1)) < (l1.length : Int) then (if (rd l1 (wrap64 (x5_1 - 1))) ≥ (rd l1 x5_1) then (some false) else (spec_IsSet.l0 k1 l1 (wrap64 (x5_1 + 1)) a0_0 l0_1)) else (none)) else (none)) else (spec_IsSet.l0 k1 l1 (wrap64 (x5_1 + 1)) a0_0 l0_1)) else (some false)) = some r := H
      have A10 := Aside0.mk A100
      clear A100
      by_cases c11 : t136 = true
      ·subst c11
       have H1 : (if x5_1 > 0 then (if 0 ≤ (wrap64 (x5_1 - 1)) then (if (wrap64 (x5_1 - 1)) < (l1.length : Int) then (if (rd l1 (wrap64 (x5_1 - 1))) ≥ (rd l1 x5_1) then (some false) else (spec_IsSet.l0 k1 l1 (wrap64 (x5_1 + 1)) a0_0 l0_1)) else (none)) else (none)) else (spec_IsSet.l0 k1 l1 (wrap64 (x5_1 + 1)) a0_0 l0_1)) = some r := by rw [if_pos rfl] at H; exact H
       clear H
       have H := H1
       clear H1
       by_cases c12 : x5_1 > 0
       ·rw [if_pos c12] at H
        have c12b0 : decide (0 < x5_1) = true := decide_eq_true c12
        clear c12
        obtain ⟨ji13, hji13⟩ : ∃ j_ : Int, (wrap64 (x5_1 - 1)) = j_ := ⟨_, rfl⟩
        replace H : (if 0 ≤ (ji13) then (if (ji13) < (l1.length : Int) then (if (rd l1 (ji13)) ≥ (rd l1 x5_1) then (some false) else (spec_IsSet.l0 k1 l1 (wrap64 (x5_1 + 1)) a0_0 l0_1)) else (none)) else (none)) = some r := by first | (rw [hji13] at H; exact H) | (simp only [hji13] at H ⊢; exact H)
        (try rw [hji13] at A10)
        have hji13w : (IntKind.i64.wrap (x5_1 - 1)) = ji13 := (Zk _).trans hji13
        by_cases c14 : 0 ≤ (ji13)
        ·rw [if_pos c14] at H
         have c14b0 : decide (0 ≤ (ji13)) = true := decide_eq_true c14
         clear c14
         by_cases c15 : (ji13) < (l1.length : Int)
         ·rw [if_pos c15] at H
          have c15b0 : decide ((ji13) < (l1.length : Int)) = true := decide_eq_true c15
          clear c15
          by_cases c16 : (rd l1 (ji13)) ≥ (rd l1 x5_1)
          ·rw [if_pos c16] at H
           have c16b0 : decide ((rd l1 x5_1) ≤ (rd l1 (ji13))) = true := decide_eq_true c16
           clear c16
           obtain rfl := Option.some.inj H
           have p135 : 0 ≤ (x5_1 : Int) := of_decide_eq_true as_
           have q135 : x5_1 < (l1.length : Int) := of_decide_eq_true as_
           obtain ⟨ad135, e135, hx135_0⟩ := Zo HR1.out x5_1 p135 q135
           cases e135
           replace hx135_0 := (HB.out.cell (World.block_lt_of_cell? w _ hx135_0)).trans hx135_0
           replace p135 := eq_true p135
           replace q135 := eq_true q135
           have hcz17_0 : wr.cell? ⟨gb133, 0, none⟩ = some (.int .i64 a0_0) := (Ze BK133.out 0).trans rfl
           have hcz17_1 : wr.cell? ⟨gb133, 1, none⟩ = some (.slice A0_1 l0_1.length c0_1) := (Ze BK133.out 1).trans rfl
           have hfz17_0 := Zd BK133.out 0
           have hfz17_1 := Zd BK133.out 1
           go_wp2_with (first | (go_at_call 62; refine calls_of_args (args' := #[.int .i64 (rd l1 x5_1), .int .i64 0, .int .i64 (wrap64 (a0_0 - 1))]) ?harg ?_; (case harg => first | rfl | (simp only [Zk, Zm]; rfl) | (simp only [Zk, Zm]; done)); (with_reducible refine (spec_l1In.calls (rd l1 x5_1) 0 (wrap64 (a0_0 - 1)) true _ A10.out).mono ?_); rintro e w' ⟨rfl, ⟨nd, rfl⟩⟩; (try first | exact ⟨rfl, _, World.drewN_drewN _ _ _⟩ | exact ⟨rfl, _, Eq.trans (World.drewN_drewN _ _ _) (congrArg (World.drewN _) (Nat.add_assoc _ _ _))⟩); have p137 : 0 ≤ ((ji13) : Int) := of_decide_eq_true as_; have q137 : (ji13) < (l1.length : Int) := of_decide_eq_true as_; obtain ⟨ad137, e137, hx137_0⟩ := Zo HR1.out (ji13) p137 q137; obtain rfl : ad135 = ad137 := (by injection e137); replace hx137_0 := (HB.out.cell (World.block_lt_of_cell? w _ hx137_0)).trans hx137_0; replace p137 := eq_true p137; replace q137 := eq_true q137; have p138 : 0 ≤ (x5_1 : Int) := of_decide_eq_true as_; have q138 : x5_1 < (l1.length : Int) := of_decide_eq_true as_; obtain ⟨ad138, e138, hx138_0⟩ := Zo HR1.out x5_1 p138 q138; obtain rfl : ad135 = ad138 := (by injection e138); replace hx138_0 := (HB.out.cell (World.block_lt_of_cell? w _ hx138_0)).trans hx138_0; replace p138 := eq_true p138; replace q138 := eq_true q138))
           repeat (go_quiet (first | (go_at_call 62; refine calls_of_args (args' := #[.int .i64 (rd l1 x5_1), .int .i64 0, .int .i64 (wrap64 (a0_0 - 1))]) ?harg ?_; (case harg => first | rfl | (simp only [Zk, Zm]; rfl) | (simp only [Zk, Zm]; done)); (with_reducible refine (spec_l1In.calls (rd l1 x5_1) 0 (wrap64 (a0_0 - 1)) true _ A10.out).mono ?_); rintro e w' ⟨rfl, ⟨nd, rfl⟩⟩; (try first | exact ⟨rfl, _, World.drewN_drewN _ _ _⟩ | exact ⟨rfl, _, Eq.trans (World.drewN_drewN _ _ _) (congrArg (World.drewN _) (Nat.add_assoc _ _ _))⟩); have p137 : 0 ≤ ((ji13) : Int) := of_decide_eq_true as_; have q137 : (ji13) < (l1.length : Int) := of_decide_eq_true as_; obtain ⟨ad137, e137, hx137_0⟩ := Zo HR1.out (ji13) p137 q137; obtain rfl : ad135 = ad137 := (by injection e137); replace hx137_0 := (HB.out.cell (World.block_lt_of_cell? w _ hx137_0)).trans hx137_0; replace p137 := eq_true p137; replace q137 := eq_true q137; have p138 : 0 ≤ (x5_1 : Int) := of_decide_eq_true as_; have q138 : x5_1 < (l1.length : Int) := of_decide_eq_true as_; obtain ⟨ad138, e138, hx138_0⟩ := Zo HR1.out x5_1 p138 q138; obtain rfl : ad135 = ad138 := (by injection e138); replace hx138_0 := (HB.out.cell (World.block_lt_of_cell? w _ hx138_0)).trans hx138_0; replace p138 := eq_true p138; replace q138 := eq_true q138)); try go_wp2_with (first | (go_at_call 62; refine calls_of_args (args' := #[.int .i64 (rd l1 x5_1), .int .i64 0, .int .i64 (wrap64 (a0_0 - 1))]) ?harg ?_; (case harg => first | rfl | (simp only [Zk, Zm]; rfl) | (simp only [Zk, Zm]; done)); (with_reducible refine (spec_l1In.calls (rd l1 x5_1) 0 (wrap64 (a0_0 - 1)) true _ A10.out).mono ?_); rintro e w' ⟨rfl, ⟨nd, rfl⟩⟩; (try first | exact ⟨rfl, _, World.drewN_drewN _ _ _⟩ | exact ⟨rfl, _, Eq.trans (World.drewN_drewN _ _ _) (congrArg (World.drewN _) (Nat.add_assoc _ _ _))⟩); have p137 : 0 ≤ ((ji13) : Int) := of_decide_eq_true as_; have q137 : (ji13) < (l1.length : Int) := of_decide_eq_true as_; obtain ⟨ad137, e137, hx137_0⟩ := Zo HR1.out (ji13) p137 q137; obtain rfl : ad135 = ad137 := (by injection e137); replace hx137_0 := (HB.out.cell (World.block_lt_of_cell? w _ hx137_0)).trans hx137_0; replace p137 := eq_true p137; replace q137 := eq_true q137; have p138 : 0 ≤ (x5_1 : Int) := of_decide_eq_true as_; have q138 : x5_1 < (l1.length : Int) := of_decide_eq_true as_; obtain ⟨ad138, e138, hx138_0⟩ := Zo HR1.out x5_1 p138 q138; obtain rfl : ad135 = ad138 := (by injection e138); replace hx138_0 := (HB.out.cell (World.block_lt_of_cell? w _ hx138_0)).trans hx138_0; replace p138 := eq_true p138; replace q138 := eq_true q138)))
           go_ret
           exact ⟨by first | rfl | (simp [errW_none, errW_some] <;> rfl) | (simp only [← hji13]; first | rfl | (simp [errW_none, errW_some] <;> rfl)) | (simp [*, errW_none, errW_some] <;> rfl), hb_⟩
          ·rw [if_neg c16] at H
           have c16b0 : decide ((rd l1 x5_1) ≤ (rd l1 (ji13))) = false := decide_eq_false c16
           clear c16
           have H' := Aside0.mk H
           clear H
           have p135 : 0 ≤ (x5_1 : Int) := of_decide_eq_true as_
           have q135 : x5_1 < (l1.length : Int) := of_decide_eq_true as_
           obtain ⟨ad135, e135, hx135_0⟩ := Zo HR1.out x5_1 p135 q135
           cases e135
           replace hx135_0 := (HB.out.cell (World.block_lt_of_cell? w _ hx135_0)).trans hx135_0
           replace p135 := eq_true p135
           replace q135 := eq_true q135
           have hcz18_0 : wr.cell? ⟨gb133, 0, none⟩ = some (.int .i64 a0_0) := (Ze BK133.out 0).trans rfl
           have hcz18_1 : wr.cell? ⟨gb133, 1, none⟩ = some (.slice A0_1 l0_1.length c0_1) := (Ze BK133.out 1).trans rfl
           have hfz18_0 := Zd BK133.out 0
           have hfz18_1 := Zd BK133.out 1
           go_wp2_with (first | (go_at_call 62; refine calls_of_args (args' := #[.int .i64 (rd l1 x5_1), .int .i64 0, .int .i64 (wrap64 (a0_0 - 1))]) ?harg ?_; (case harg => first | rfl | (simp only [Zk, Zm]; rfl) | (simp only [Zk, Zm]; done)); (with_reducible refine (spec_l1In.calls (rd l1 x5_1) 0 (wrap64 (a0_0 - 1)) true _ A10.out).mono ?_); rintro e w' ⟨rfl, ⟨nd, rfl⟩⟩; (try first | exact ⟨rfl, _, World.drewN_drewN _ _ _⟩ | exact ⟨rfl, _, Eq.trans (World.drewN_drewN _ _ _) (congrArg (World.drewN _) (Nat.add_assoc _ _ _))⟩); have p137 : 0 ≤ ((ji13) : Int) := of_decide_eq_true as_; have q137 : (ji13) < (l1.length : Int) := of_decide_eq_true as_; obtain ⟨ad137, e137, hx137_0⟩ := Zo HR1.out (ji13) p137 q137; obtain rfl : ad135 = ad137 := (by injection e137); replace hx137_0 := (HB.out.cell (World.block_lt_of_cell? w _ hx137_0)).trans hx137_0; replace p137 := eq_true p137; replace q137 := eq_true q137; have p138 : 0 ≤ (x5_1 : Int) := of_decide_eq_true as_; have q138 : x5_1 < (l1.length : Int) := of_decide_eq_true as_; obtain ⟨ad138, e138, hx138_0⟩ := Zo HR1.out x5_1 p138 q138; obtain rfl : ad135 = ad138 := (by injection e138); replace hx138_0 := (HB.out.cell (World.block_lt_of_cell? w _ hx138_0)).trans hx138_0; replace p138 := eq_true p138; replace q138 := eq_true q138))
           repeat (go_quiet (first | (go_at_call 62; refine calls_of_args (args' := #[.int .i64 (rd l1 x5_1), .int .i64 0, .int .i64 (wrap64 (a0_0 - 1))]) ?harg ?_; (case harg => first | rfl | (simp only [Zk, Zm]; rfl) | (simp only [Zk, Zm]; done)); (with_reducible refine (spec_l1In.calls (rd l1 x5_1) 0 (wrap64 (a0_0 - 1)) true _ A10.out).mono ?_); rintro e w' ⟨rfl, ⟨nd, rfl⟩⟩; (try first | exact ⟨rfl, _, World.drewN_drewN _ _ _⟩ | exact ⟨rfl, _, Eq.trans (World.drewN_drewN _ _ _) (congrArg (World.drewN _) (Nat.add_assoc _ _ _))⟩); have p137 : 0 ≤ ((ji13) : Int) := of_decide_eq_true as_; have q137 : (ji13) < (l1.length : Int) := of_decide_eq_true as_; obtain ⟨ad137, e137, hx137_0⟩ := Zo HR1.out (ji13) p137 q137; obtain rfl : ad135 = ad137 := (by injection e137); replace hx137_0 := (HB.out.cell (World.block_lt_of_cell? w _ hx137_0)).trans hx137_0; replace p137 := eq_true p137; replace q137 := eq_true q137; have p138 : 0 ≤ (x5_1 : Int) := of_decide_eq_true as_; have q138 : x5_1 < (l1.length : Int) := of_decide_eq_true as_; obtain ⟨ad138, e138, hx138_0⟩ := Zo HR1.out x5_1 p138 q138; obtain rfl : ad135 = ad138 := (by injection e138); replace hx138_0 := (HB.out.cell (World.block_lt_of_cell? w _ hx138_0)).trans hx138_0; replace p138 := eq_true p138; replace q138 := eq_true q138)); try go_wp2_with (first | (go_at_call 62; refine calls_of_args (args' := #[.int .i64 (rd l1 x5_1), .int .i64 0, .int .i64 (wrap64 (a0_0 - 1))]) ?harg ?_; (case harg => first | rfl | (simp only [Zk, Zm]; rfl) | (simp only [Zk, Zm]; done)); (with_reducible refine (spec_l1In.calls (rd l1 x5_1) 0 (wrap64 (a0_0 - 1)) true _ A10.out).mono ?_); rintro e w' ⟨rfl, ⟨nd, rfl⟩⟩; (try first | exact ⟨rfl, _, World.drewN_drewN _ _ _⟩ | exact ⟨rfl, _, Eq.trans (World.drewN_drewN _ _ _) (congrArg (World.drewN _) (Nat.add_assoc _ _ _))⟩); have p137 : 0 ≤ ((ji13) : Int) := of_decide_eq_true as_; have q137 : (ji13) < (l1.length : Int) := of_decide_eq_true as_; obtain ⟨ad137, e137, hx137_0⟩ := Zo HR1.out (ji13) p137 q137; obtain rfl : ad135 = ad137 := (by injection e137); replace hx137_0 := (HB.out.cell (World.block_lt_of_cell? w _ hx137_0)).trans hx137_0; replace p137 := eq_true p137; replace q137 := eq_true q137; have p138 : 0 ≤ (x5_1 : Int) := of_decide_eq_true as_; have q138 : x5_1 < (l1.length : Int) := of_decide_eq_true as_; obtain ⟨ad138, e138, hx138_0⟩ := Zo HR1.out x5_1 p138 q138; obtain rfl : ad135 = ad138 := (by injection e138); replace hx138_0 := (HB.out.cell (World.block_lt_of_cell? w _ hx138_0)).trans hx138_0; replace p138 := eq_true p138; replace q138 := eq_true q138)))
           go_roundg k1
           case measure => have := HK1.out; omega
           case rel => exact ⟨(wrap64 (x5_1 + 1)), sm_, H', ⟨by have := HK1.out; omega⟩, ⟨bk_ BK133.out⟩, ⟨hb_⟩⟩
         ·rw [if_neg c15] at H
          exact absurd H (by simp)
        ·rw [if_neg c14] at H
         exact absurd H (by simp)
       ·rw [if_neg c12] at H
        have c12b0 : decide (0 < x5_1) = false := decide_eq_false c12
        clear c12
        have H' := Aside0.mk H
        clear H
        have p135 : 0 ≤ (x5_1 : Int) := of_decide_eq_true as_
        have q135 : x5_1 < (l1.length : Int) := of_decide_eq_true as_
        obtain ⟨ad135, e135, hx135_0⟩ := Zo HR1.out x5_1 p135 q135
        cases e135
        replace hx135_0 := (HB.out.cell (World.block_lt_of_cell? w _ hx135_0)).trans hx135_0
        replace p135 := eq_true p135
        replace q135 := eq_true q135
        have hcz19_0 : wr.cell? ⟨gb133, 0, none⟩ = some (.int .i64 a0_0) := (Ze BK133.out 0).trans rfl
        have hcz19_1 : wr.cell? ⟨gb133, 1, none⟩ = some (.slice A0_1 l0_1.length c0_1) := (Ze BK133.out 1).trans rfl
        have hfz19_0 := Zd BK133.out 0
        have hfz19_1 := Zd BK133.out 1
        go_wp2_with (first | (go_at_call 62; refine calls_of_args (args' := #[.int .i64 (rd l1 x5_1), .int .i64 0, .int .i64 (wrap64 (a0_0 - 1))]) ?harg ?_; (case harg => first | rfl | (simp only [Zk, Zm]; rfl) | (simp only [Zk, Zm]; done)); (with_reducible refine (spec_l1In.calls (rd l1 x5_1) 0 (wrap64 (a0_0 - 1)) true _ A10.out).mono ?_); rintro e w' ⟨rfl, ⟨nd, rfl⟩⟩; (try first | exact ⟨rfl, _, World.drewN_drewN _ _ _⟩ | exact ⟨rfl, _, Eq.trans (World.drewN_drewN _ _ _) (congrArg (World.drewN _) (Nat.add_assoc _ _ _))⟩)))
        repeat (go_quiet (first | (go_at_call 62; refine calls_of_args (args' := #[.int .i64 (rd l1 x5_1), .int .i64 0, .int .i64 (wrap64 (a0_0 - 1))]) ?harg ?_; (case harg => first | rfl | (simp only [Zk, Zm]; rfl) | (simp only [Zk, Zm]; done)); (with_reducible refine (spec_l1In.calls (rd l1 x5_1) 0 (wrap64 (a0_0 - 1)) true _ A10.out).mono ?_); rintro e w' ⟨rfl, ⟨nd, rfl⟩⟩; (try first | exact ⟨rfl, _, World.drewN_drewN _ _ _⟩ | exact ⟨rfl, _, Eq.trans (World.drewN_drewN _ _ _) (congrArg (World.drewN _) (Nat.add_assoc _ _ _))⟩))); try go_wp2_with (first | (go_at_call 62; refine calls_of_args (args' := #[.int .i64 (rd l1 x5_1), .int .i64 0, .int .i64 (wrap64 (a0_0 - 1))]) ?harg ?_; (case harg => first | rfl | (simp only [Zk, Zm]; rfl) | (simp only [Zk, Zm]; done)); (with_reducible refine (spec_l1In.calls (rd l1 x5_1) 0 (wrap64 (a0_0 - 1)) true _ A10.out).mono ?_); rintro e w' ⟨rfl, ⟨nd, rfl⟩⟩; (try first | exact ⟨rfl, _, World.drewN_drewN _ _ _⟩ | exact ⟨rfl, _, Eq.trans (World.drewN_drewN _ _ _) (congrArg (World.drewN _) (Nat.add_assoc _ _ _))⟩))))
        go_roundg k1
        case measure => have := HK1.out; omega
        case rel => exact ⟨(wrap64 (x5_1 + 1)), sm_, H', ⟨by have := HK1.out; omega⟩, ⟨bk_ BK133.out⟩, ⟨hb_⟩⟩
      ·replace c11 := Bool.eq_false_iff.mpr c11
       subst c11
       have H1 : (some false) = some r := by rw [if_neg (show ¬ (false = true) by decide)] at H; exact H
       clear H
       have H := H1
       clear H1
       obtain rfl := Option.some.inj H
       have p135 : 0 ≤ (x5_1 : Int) := of_decide_eq_true as_
       have q135 : x5_1 < (l1.length : Int) := of_decide_eq_true as_
       obtain ⟨ad135, e135, hx135_0⟩ := Zo HR1.out x5_1 p135 q135
       cases e135
       replace hx135_0 := (HB.out.cell (World.block_lt_of_cell? w _ hx135_0)).trans hx135_0
       replace p135 := eq_true p135
       replace q135 := eq_true q135
       have hcz20_0 : wr.cell? ⟨gb133, 0, none⟩ = some (.int .i64 a0_0) := (Ze BK133.out 0).trans rfl
       have hcz20_1 : wr.cell? ⟨gb133, 1, none⟩ = some (.slice A0_1 l0_1.length c0_1) := (Ze BK133.out 1).trans rfl
       have hfz20_0 := Zd BK133.out 0
       have hfz20_1 := Zd BK133.out 1
       go_wp2_with (first | (go_at_call 62; refine calls_of_args (args' := #[.int .i64 (rd l1 x5_1), .int .i64 0, .int .i64 (wrap64 (a0_0 - 1))]) ?harg ?_; (case harg => first | rfl | (simp only [Zk, Zm]; rfl) | (simp only [Zk, Zm]; done)); (with_reducible refine (spec_l1In.calls (rd l1 x5_1) 0 (wrap64 (a0_0 - 1)) false _ A10.out).mono ?_); rintro e w' ⟨rfl, ⟨nd, rfl⟩⟩; (try first | exact ⟨rfl, _, World.drewN_drewN _ _ _⟩ | exact ⟨rfl, _, Eq.trans (World.drewN_drewN _ _ _) (congrArg (World.drewN _) (Nat.add_assoc _ _ _))⟩)))
       repeat (go_quiet (first | (go_at_call 62; refine calls_of_args (args' := #[.int .i64 (rd l1 x5_1), .int .i64 0, .int .i64 (wrap64 (a0_0 - 1))]) ?harg ?_; (case harg => first | rfl | (simp only [Zk, Zm]; rfl) | (simp only [Zk, Zm]; done)); (with_reducible refine (spec_l1In.calls (rd l1 x5_1) 0 (wrap64 (a0_0 - 1)) false _ A10.out).mono ?_); rintro e w' ⟨rfl, ⟨nd, rfl⟩⟩; (try first | exact ⟨rfl, _, World.drewN_drewN _ _ _⟩ | exact ⟨rfl, _, Eq.trans (World.drewN_drewN _ _ _) (congrArg (World.drewN _) (Nat.add_assoc _ _ _))⟩))); try go_wp2_with (first | (go_at_call 62; refine calls_of_args (args' := #[.int .i64 (rd l1 x5_1), .int .i64 0, .int .i64 (wrap64 (a0_0 - 1))]) ?harg ?_; (case harg => first | rfl | (simp only [Zk, Zm]; rfl) | (simp only [Zk, Zm]; done)); (with_reducible refine (spec_l1In.calls (rd l1 x5_1) 0 (wrap64 (a0_0 - 1)) false _ A10.out).mono ?_); rintro e w' ⟨rfl, ⟨nd, rfl⟩⟩; (try first | exact ⟨rfl, _, World.drewN_drewN _ _ _⟩ | exact ⟨rfl, _, Eq.trans (World.drewN_drewN _ _ _) (congrArg (World.drewN _) (Nat.add_assoc _ _ _))⟩))))
       go_ret
       exact ⟨er_, hb_⟩
     ·rw [if_neg c9] at H
      exact absurd H (by simp)
    ·rw [if_neg c8] at H
     have c8b0 : decide (x5_1 < (l1.length : Int)) = false := decide_eq_false c8
     clear c8
     obtain rfl := Option.some.inj H
     go_wp2
     repeat (go_quiet (fail); try go_wp2)
     go_ret
     exact ⟨er_, hb_⟩
 ·replace c4 := Bool.eq_false_iff.mpr c4
  subst c4
  have H1 : (some false) = some r := by rw [if_neg (show ¬ (false = true) by decide)] at H; exact H
  clear H
  have H := H1
  clear H1
  obtain rfl := Option.some.inj H
  go_enter Try.func94, Try.ntmps94
  go_wp2_with (first | ((with_reducible refine Zr (N := 2) rfl ?_); refine Zu ?hg (N := 2) ?hd (cs := #[.int .i64 a0_0, .slice A0_1 l0_1.length c0_1]) (t := 27) ?hr ?_; (case hd => rfl); (case hg => rfl); (case hr => first | (go_simp; done) | (go_simp; rfl)); intro gb133 hg w21 hbox hb; have n0_ := Aside0.mk (Zf hb_ hb); have n1_ := Aside0.mk (hbox); have n2_ := Aside0.mk ((hz_ hg : w.heap.size ≤ gb133)); have n3_ := Aside0.mk ((hz_ hg : w.heap.size ≤ gb133)); clear HB; have HB := n0_; have BK133 := n1_; have GW133 := n2_; have GE133 := n3_; clear n0_ n1_ n2_ n3_; clear hb hbox hg; have hcz22_0 : w21.cell? ⟨gb133, 0, none⟩ = some (.int .i64 a0_0) := (Ze BK133.out 0).trans rfl; have hcz22_1 : w21.cell? ⟨gb133, 1, none⟩ = some (.slice A0_1 l0_1.length c0_1) := (Ze BK133.out 1).trans rfl; have hfz22_0 := Zd BK133.out 0; have hfz22_1 := Zd BK133.out 1) | (go_at_call 57; (with_reducible refine (spec_IsGraph.calls k a0_0 _ _ l0_1 false _ ?side1 ?side2 A3.out).mono ?_); (case side1 => exact cb_ HR0_1.out); (case side2 => exact HC0_1.out); rintro e w23 ⟨rfl, hb⟩; have n0_ := Aside0.mk (Zj (g := gb133) (o := .cells #[.int .i64 a0_0, .slice A0_1 l0_1.length c0_1] 27 (0, 0)) (bk_ BK133.out) hb); have n1_ := Aside0.mk (Zf hb_ hb); clear BK133; clear HB; have BK133 := n0_; have HB := n1_; clear n0_ n1_; (try clear hb); (try clear hb2); (try clear hk); (try clear hi)))
  repeat (go_quiet (first | ((with_reducible refine Zr (N := 2) rfl ?_); refine Zu ?hg (N := 2) ?hd (cs := #[.int .i64 a0_0, .slice A0_1 l0_1.length c0_1]) (t := 27) ?hr ?_; (case hd => rfl); (case hg => rfl); (case hr => first | (go_simp; done) | (go_simp; rfl)); intro gb133 hg w21 hbox hb; have n0_ := Aside0.mk (Zf hb_ hb); have n1_ := Aside0.mk (hbox); have n2_ := Aside0.mk ((hz_ hg : w.heap.size ≤ gb133)); have n3_ := Aside0.mk ((hz_ hg : w.heap.size ≤ gb133)); clear HB; have HB := n0_; have BK133 := n1_; have GW133 := n2_; have GE133 := n3_; clear n0_ n1_ n2_ n3_; clear hb hbox hg; have hcz22_0 : w21.cell? ⟨gb133, 0, none⟩ = some (.int .i64 a0_0) := (Ze BK133.out 0).trans rfl; have hcz22_1 : w21.cell? ⟨gb133, 1, none⟩ = some (.slice A0_1 l0_1.length c0_1) := (Ze BK133.out 1).trans rfl; have hfz22_0 := Zd BK133.out 0; have hfz22_1 := Zd BK133.out 1) | (go_at_call 57; (with_reducible refine (spec_IsGraph.calls k a0_0 _ _ l0_1 false _ ?side1 ?side2 A3.out).mono ?_); (case side1 => exact cb_ HR0_1.out); (case side2 => exact HC0_1.out); rintro e w23 ⟨rfl, hb⟩; have n0_ := Aside0.mk (Zj (g := gb133) (o := .cells #[.int .i64 a0_0, .slice A0_1 l0_1.length c0_1] 27 (0, 0)) (bk_ BK133.out) hb); have n1_ := Aside0.mk (Zf hb_ hb); clear BK133; clear HB; have BK133 := n0_; have HB := n1_; clear n0_ n1_; (try clear hb); (try clear hb2); (try clear hk); (try clear hi))); try go_wp2_with (first | ((with_reducible refine Zr (N := 2) rfl ?_); refine Zu ?hg (N := 2) ?hd (cs := #[.int .i64 a0_0, .slice A0_1 l0_1.length c0_1]) (t := 27) ?hr ?_; (case hd => rfl); (case hg => rfl); (case hr => first | (go_simp; done) | (go_simp; rfl)); intro gb133 hg w21 hbox hb; have n0_ := Aside0.mk (Zf hb_ hb); have n1_ := Aside0.mk (hbox); have n2_ := Aside0.mk ((hz_ hg : w.heap.size ≤ gb133)); have n3_ := Aside0.mk ((hz_ hg : w.heap.size ≤ gb133)); clear HB; have HB := n0_; have BK133 := n1_; have GW133 := n2_; have GE133 := n3_; clear n0_ n1_ n2_ n3_; clear hb hbox hg; have hcz22_0 : w21.cell? ⟨gb133, 0, none⟩ = some (.int .i64 a0_0) := (Ze BK133.out 0).trans rfl; have hcz22_1 : w21.cell? ⟨gb133, 1, none⟩ = some (.slice A0_1 l0_1.length c0_1) := (Ze BK133.out 1).trans rfl; have hfz22_0 := Zd BK133.out 0; have hfz22_1 := Zd BK133.out 1) | (go_at_call 57; (with_reducible refine (spec_IsGraph.calls k a0_0 _ _ l0_1 false _ ?side1 ?side2 A3.out).mono ?_); (case side1 => exact cb_ HR0_1.out); (case side2 => exact HC0_1.out); rintro e w23 ⟨rfl, hb⟩; have n0_ := Aside0.mk (Zj (g := gb133) (o := .cells #[.int .i64 a0_0, .slice A0_1 l0_1.length c0_1] 27 (0, 0)) (bk_ BK133.out) hb); have n1_ := Aside0.mk (Zf hb_ hb); clear BK133; clear HB; have BK133 := n0_; have HB := n1_; clear n0_ n1_; (try clear hb); (try clear hb2); (try clear hk); (try clear hi))))
  go_ret
  exact ⟨er_, hb_⟩

end Go.Proofs.Ytkmhkkhlbnhaaaa.PFnExactIsCertain
