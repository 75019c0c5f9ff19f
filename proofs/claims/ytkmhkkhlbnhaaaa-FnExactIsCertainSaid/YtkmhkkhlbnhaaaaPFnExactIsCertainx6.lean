-- Written by a program of this session (hooks of mine on the print): Lean checks it.
import Derived.Test.YtkmhkkhlbnhaaaaPFnExactIsCertainx0
import Derived.Test.YtkmhkkhlbnhaaaaPFnExactIsCertainx2
import Derived.Test.YtkmhkkhlbnhaaaaPFnExactIsCertainx5
namespace Go.Proofs.Ytkmhkkhlbnhaaaa.PFnExactIsCertain
open Go.RowKit Go.Proofs.YtkmhkkhlbnhaaaaW.PrintWords Go.Proofs.YtkmhkkhlbnhaaaaW.PrintLast Go.Proofs.YtkmhkkhlbnhaaaaW.PrintMore
attribute [local go_sem] max2_int min2_int max_two min_two max_three min_three max_four min_four   -- for this text's walks alone
set_option linter.unusedVariables false
set_option linter.unusedSimpArgs false

/-! ### spec_l7Part: function 52 -/
def spec_l7Part.l0 : Nat → List Int → List Int → Int → Option (Bool)
 | 0, _, _, _ => none
 | k + 1, x0, x1, x5 => if x5 < (x0.length : Int) then (if 0 ≤ x5 then ((spec_l4Has.f k x1 (rd x0 x5)).bind fun t258 => (if t258 = true then (spec_l7Part.l0 k x0 x1 (wrap64 (x5 + 1))) else (some false))) else (none)) else (some true)
def spec_l7Part.f (k : Nat) (l0 : List Int) (l1 : List Int) : Option (Bool) := spec_l7Part.l0 k l0 l1 0
theorem spec_l7Part.mono_l : ∀ k, (∀ y0 y1 y2, LeO (spec_l7Part.l0 k y0 y1 y2) (spec_l7Part.l0 (k + 1) y0 y1 y2))
 | 0 => fun _ _ _ r h => by simp [spec_l7Part.l0] at h
 | k + 1 => by
  have ih0 := spec_l7Part.mono_l k
  ·intro y0 y1 y2
   unfold spec_l7Part.l0
   repeat' first
   | (with_reducible exact ih0 _ _ _)
   | (with_reducible exact spec_l4Has.mono _ _ _)
   | (with_reducible exact Zs _)
   | (with_reducible exact Zg _)
   | (with_reducible refine Zn ?_ ?_)
   | (with_reducible refine Zh ?_ (fun _ => ?_))
   | exact ih0 _ _ _
   | exact spec_l4Has.mono _ _ _
   | exact Zg _
   | refine Zn ?_ ?_
   | refine Zh ?_ (fun _ => ?_)
theorem spec_l7Part.mono : ∀ a0 a1 k, LeO (spec_l7Part.f k a0 a1) (spec_l7Part.f (k + 1) a0 a1) := by
 intro a0 a1 k
 have ih0 := spec_l7Part.mono_l k
 unfold spec_l7Part.f
 repeat' first
   | (with_reducible exact ih0 _ _ _)
   | (with_reducible exact spec_l4Has.mono _ _ _)
   | (with_reducible exact Zs _)
   | (with_reducible exact Zg _)
   | (with_reducible refine Zn ?_ ?_)
   | (with_reducible refine Zh ?_ (fun _ => ?_))
   | exact ih0 _ _ _
   | exact spec_l4Has.mono _ _ _
   | exact Zg _
   | refine Zn ?_ ?_
   | refine Zh ?_ (fun _ => ?_)
set_option maxHeartbeats 8000000 in
set_option maxRecDepth 100000 in
theorem spec_l7Part.calls (k : Nat) (A0 : Option Addr) (c0 : Nat) (l0 : List Int) (A1 : Option Addr) (c1 : Nat) (l1 : List Int) (r : Bool) (w : World) (hr0 : Kd.C (Kd.int .i64) w A0 l0.length l0) (hc0 : l0.length ≤ c0) (hr1 : Kd.C (Kd.int .i64) w A1 l1.length l1) (hc1 : l1.length ≤ c1) (h : spec_l7Part.f k l0 l1 = some r) :
  Calls Try.prog 52 #[.slice A0 l0.length c0, .slice A1 l1.length c1] w fun e w' => e = .returned (.bool r) ∧ Drawn0 w w' := by
 have HR0 := Aside0.mk hr0
 have HC0 := Aside0.mk hc0
 clear hr0 hc0
 have HR1 := Aside0.mk hr1
 have HC1 := Aside0.mk hc1
 clear hr1 hc1
 have H : (spec_l7Part.l0 k l0 l1 0) = some r := h
 clear h
 have H' := Aside0.mk H
 clear H
 go_enter Try.func52, Try.ntmps52
 go_wp2
 go_loopg [5] k (fun kq v5 w' => ∃ (x5_1 : Int), v5 = .int .i64 x5_1 ∧ Aside0 (spec_l7Part.l0 kq l0 l1 x5_1 = some r) ∧ Aside0 (kq ≤ k) ∧ Drawn0 w w')
 case atStart => exact ⟨(0), sm_, H', ⟨Nat.le_refl _⟩, dr_⟩
 case round =>
  clear H'
  try clear c1
  try clear p2
  obtain ⟨x5_1, rfl, HA, HK1, ⟨m1, rfl⟩⟩ := hrel
  cases gk with
  | zero => exact absurd HA.out (by simp [spec_l7Part.l0])
  | succ k1 =>
   have H := HA.out
   clear HA
   simp only [spec_l7Part.l0] at H
   by_cases c3 : x5_1 < (l0.length : Int)
   ·rw [if_pos c3] at H
    have c3b0 : decide (x5_1 < (l0.length : Int)) = true := decide_eq_true c3
    clear c3
    by_cases c4 : 0 ≤ x5_1
    ·rw [if_pos c4] at H
     have c4b0 : decide (0 ≤ x5_1) = true := decide_eq_true c4
     clear c4
     replace H := Option.bind_eq_some_iff.mp H
     obtain ⟨t258, A50, H⟩ := H
     replace H : (if t258 = true then (spec_l7Part.l0 k1 l0 l1 (wrap64 (x5_1 + 1))) else (some false)) = some r := H
     have A5 := Aside0.mk A50
     clear A50
     by_cases c6 : t258 = true
     ·subst c6
      have H1 : (spec_l7Part.l0 k1 l0 l1 (wrap64 (x5_1 + 1))) = some r := by rw [if_pos rfl] at H; exact H
      clear H
      have H := H1
      clear H1
      have H' := Aside0.mk H
      clear H
      have p257 : 0 ≤ (x5_1 : Int) := of_decide_eq_true as_
      have q257 : x5_1 < (l0.length : Int) := of_decide_eq_true as_
      obtain ⟨ad257, e257, hx257_0⟩ := Zo HR0.out x5_1 p257 q257
      cases e257
      replace p257 := eq_true p257
      replace q257 := eq_true q257
      go_wp2_with (first | ((with_reducible refine Zl (f := 46) rfl ?_); refine Zx (some 17) rfl rfl Try.func46 (by kernel_rfl) rfl #[.slice A1 l1.length c1, .int .i64 (rd l0 x5_1)] rfl ar_ ?_; (with_reducible refine (spec_l4Has.calls k1 _ _ l1 (rd l0 x5_1) true _ ?side1 ?side2 A5.out).mono ?_); (case side1 => repeat (first | exact HR1.out | (with_reducible refine Zv ?_ _) | (with_reducible refine Zt ?_ _) | (with_reducible refine Zy ?_))); (case side2 => exact HC1.out); rintro e w' ⟨rfl, ⟨nd, rfl⟩⟩; refine ⟨_, rfl, ?_⟩))
      go_roundg k1
      case measure => have := HK1.out; omega
      case rel => exact ⟨(wrap64 (x5_1 + 1)), sm_, H', ⟨by have := HK1.out; omega⟩, dr_⟩
     ·replace c6 := Bool.eq_false_iff.mpr c6
      subst c6
      have H1 : (some false) = some r := by rw [if_neg (show ¬ (false = true) by decide)] at H; exact H
      clear H
      have H := H1
      clear H1
      obtain rfl := Option.some.inj H
      have p257 : 0 ≤ (x5_1 : Int) := of_decide_eq_true as_
      have q257 : x5_1 < (l0.length : Int) := of_decide_eq_true as_
      obtain ⟨ad257, e257, hx257_0⟩ := Zo HR0.out x5_1 p257 q257
      cases e257
      replace p257 := eq_true p257
      replace q257 := eq_true q257
      go_wp2_with (first | ((with_reducible refine Zl (f := 46) rfl ?_); refine Zx (some 17) rfl rfl Try.func46 (by kernel_rfl) rfl #[.slice A1 l1.length c1, .int .i64 (rd l0 x5_1)] rfl ar_ ?_; (with_reducible refine (spec_l4Has.calls k1 _ _ l1 (rd l0 x5_1) false _ ?side1 ?side2 A5.out).mono ?_); (case side1 => repeat (first | exact HR1.out | (with_reducible refine Zv ?_ _) | (with_reducible refine Zt ?_ _) | (with_reducible refine Zy ?_))); (case side2 => exact HC1.out); rintro e w' ⟨rfl, ⟨nd, rfl⟩⟩; refine ⟨_, rfl, ?_⟩))
      go_ret
      exact ⟨sm_, dr_⟩
    ·rw [if_neg c4] at H
     exact absurd H (by simp)
   ·rw [if_neg c3] at H
    have c3b0 : decide (x5_1 < (l0.length : Int)) = false := decide_eq_false c3
    clear c3
    obtain rfl := Option.some.inj H
    go_wp2
    go_ret
    exact ⟨sm_, dr_⟩

/-! ### spec_Preferred: function 18 -/
mutual
def spec_Preferred.l0 : Nat → List (List Int) → List (List Int) → Int → Option ((List (List Int)))
 | 0, _, _, _ => none
 | k + 1, x3, x4, x5 => if x5 < (x4.length : Int) then (spec_Preferred.l1 k x3 x4 x5 true 0) else (some x3)
def spec_Preferred.l1 : Nat → List (List Int) → List (List Int) → Int → Bool → Int → Option ((List (List Int)))
 | 0, _, _, _, _, _ => none
 | k + 1, x3, x4, x5, x6, x7 => if x7 < (x4.length : Int) then (if x6 = true then (if x7 = x5 then (spec_Preferred.l1 k x3 x4 x5 true (wrap64 (x7 + 1))) else (if 0 ≤ x5 then (if x5 < (x4.length : Int) then (if 0 ≤ x7 then ((spec_l7Part.f k (rd_L1 x4 x5) (rd_L1 x4 x7)).bind fun t268 => (spec_Preferred.l1 k x3 x4 x5 (!t268) (wrap64 (x7 + 1)))) else (none)) else (none)) else (none))) else (spec_Preferred.l1 k x3 x4 x5 false (wrap64 (x7 + 1)))) else (if x6 = true then (if 0 ≤ x5 then (if x5 < (x4.length : Int) then (if x3.length < 5864062014805 then (spec_Preferred.l0 k (x3 ++ [rd_L1 x4 x5]) x4 (wrap64 (x5 + 1))) else (none)) else (none)) else (none)) else (spec_Preferred.l0 k x3 x4 (wrap64 (x5 + 1))))
end
def spec_Preferred.f (k : Nat) (a0_0 : Int) (l0_1 : List (List Int)) : Option ((List (List Int))) := (spec_AllComplete.f k a0_0 l0_1).bind fun t263 => (spec_Preferred.l0 k (([] : List (List Int))) t263 0)
theorem spec_Preferred.mono_l : ∀ k, (∀ y0 y1 y2, LeO (spec_Preferred.l0 k y0 y1 y2) (spec_Preferred.l0 (k + 1) y0 y1 y2)) ∧ (∀ y0 y1 y2 y3 y4, LeO (spec_Preferred.l1 k y0 y1 y2 y3 y4) (spec_Preferred.l1 (k + 1) y0 y1 y2 y3 y4))
 | 0 => ⟨fun _ _ _ r h => by simp [spec_Preferred.l0] at h, fun _ _ _ _ _ r h => by simp [spec_Preferred.l1] at h⟩
 | k + 1 => by
  obtain ⟨ih0, ih1⟩ := spec_Preferred.mono_l k
  refine ⟨?_, ?_⟩
  ·intro y0 y1 y2
   unfold spec_Preferred.l0
   repeat' first
   | (with_reducible exact ih0 _ _ _)
   | (with_reducible exact ih1 _ _ _ _ _)
   | (with_reducible exact spec_AllComplete.mono _ _ _)
   | (with_reducible exact spec_l7Part.mono _ _ _)
   | (with_reducible exact Zs _)
   | (with_reducible exact Zg _)
   | (with_reducible refine Zn ?_ ?_)
   | (with_reducible refine Zh ?_ (fun _ => ?_))
   | exact ih0 _ _ _
   | exact ih1 _ _ _ _ _
   | exact spec_AllComplete.mono _ _ _
   | exact spec_l7Part.mono _ _ _
   | exact Zg _
   | refine Zn ?_ ?_
   | refine Zh ?_ (fun _ => ?_)
  ·intro y0 y1 y2 y3 y4
   unfold spec_Preferred.l1
   repeat' first
   | (with_reducible exact ih0 _ _ _)
   | (with_reducible exact ih1 _ _ _ _ _)
   | (with_reducible exact spec_AllComplete.mono _ _ _)
   | (with_reducible exact spec_l7Part.mono _ _ _)
   | (with_reducible exact Zs _)
   | (with_reducible exact Zg _)
   | (with_reducible refine Zn ?_ ?_)
   | (with_reducible refine Zh ?_ (fun _ => ?_))
   | exact ih0 _ _ _
   | exact ih1 _ _ _ _ _
   | exact spec_AllComplete.mono _ _ _
   | exact spec_l7Part.mono _ _ _
   | exact Zg _
   | refine Zn ?_ ?_
   | refine Zh ?_ (fun _ => ?_)
theorem spec_Preferred.mono : ∀ a0 a1 k, LeO (spec_Preferred.f k a0 a1) (spec_Preferred.f (k + 1) a0 a1) := by
 intro a0 a1 k
 obtain ⟨ih0, ih1⟩ := spec_Preferred.mono_l k
 unfold spec_Preferred.f
 repeat' first
   | (with_reducible exact ih0 _ _ _)
   | (with_reducible exact ih1 _ _ _ _ _)
   | (with_reducible exact spec_AllComplete.mono _ _ _)
   | (with_reducible exact spec_l7Part.mono _ _ _)
   | (with_reducible exact Zs _)
   | (with_reducible exact Zg _)
   | (with_reducible refine Zn ?_ ?_)
   | (with_reducible refine Zh ?_ (fun _ => ?_))
   | exact ih0 _ _ _
   | exact ih1 _ _ _ _ _
   | exact spec_AllComplete.mono _ _ _
   | exact spec_l7Part.mono _ _ _
   | exact Zg _
   | refine Zn ?_ ?_
   | refine Zh ?_ (fun _ => ?_)
set_option maxHeartbeats 8000000 in
set_option maxRecDepth 100000 in
theorem spec_Preferred.calls (k : Nat) (a0_0 : Int) (A0_1 : Option Addr) (c0_1 : Nat) (l0_1 : List (List Int)) (r : List (List Int)) (w : World) (hr0_1 : Kd.C (Kd.slice 3 (Kd.int .i64)) w A0_1 l0_1.length l0_1) (hc0_1 : l0_1.length ≤ c0_1) (h : spec_Preferred.f k a0_0 l0_1 = some r) :
  Calls Try.prog 18 #[.agg #[.int .i64 a0_0, .slice A0_1 l0_1.length c0_1]] w fun e w' => ∃ v0_ : Value, e = .returned (v0_) ∧ Kd.N (Kd.slice 3 (Kd.int .i64)) 38 w' w.heap.size (fun k_ => (w.heap.size ≤ k_)) v0_ r ∧ Below w.heap.size w w' := by
 have hu27 := Try.underlying27
 have HR0_1 := Aside0.mk hr0_1
 have HC0_1 := Aside0.mk hc0_1
 clear hr0_1 hc0_1
 have HB := Aside0.mk (Below.refl w.heap.size w)
 have H : ((spec_AllComplete.f k a0_0 l0_1).bind fun t263 => (spec_Preferred.l0 k (([] : List (List Int))) t263 0)) = some r := h
 clear h
 obtain ⟨y260, hy260⟩ : ∃ y_ : List (List Int), y_ = (([] : List (List Int))) := ⟨_, rfl⟩
 replace H : ((spec_AllComplete.f k a0_0 l0_1).bind fun t263 => (spec_Preferred.l0 k y260 t263 0)) = some r := hy_ hy260 H
 have Ny260 := Aside0.mk hy260
 clear hy260
 replace H := Option.bind_eq_some_iff.mp H
 obtain ⟨t263, A20, H⟩ := H
 replace H : (spec_Preferred.l0 k y260 t263 0) = some r := H
 have A2 := Aside0.mk A20
 clear A20
 have H' := Aside0.mk H
 clear H
 go_enter Try.func18, Try.ntmps18
 go_wp2_with (first | ((with_reducible refine Zr (N := 1) rfl ?_); refine Zu ?hg (N := 1) ?hd (cs := #[.int .i64 a0_0, .slice A0_1 l0_1.length c0_1]) (t := 27) ?hr ?_; (case hd => rfl); (case hg => rfl); (case hr => first | (go_simp; done) | (go_simp; rfl)); intro gb259 hg w3 hbox hb; have n0_ := Aside0.mk (Zf hb_ hb); have n1_ := Aside0.mk (hbox); have n2_ := Aside0.mk ((hz_ hg : w.heap.size ≤ gb259)); have n3_ := Aside0.mk ((hz_ hg : w.heap.size ≤ gb259)); clear HB; have HB := n0_; have BK259 := n1_; have GW259 := n2_; have GE259 := n3_; clear n0_ n1_ n2_ n3_; clear hb hbox hg) | ((with_reducible refine Zr (N := 8) rfl ?_); refine Kd.N_lit (Kd.slice 3 (Kd.int .i64)) _ 38 ?hg (N' := 8) ?hd (xs := ([] : List (List Int))) (inner := []) (ok := (fun k_ => (w.heap.size ≤ k_) ∧ k_ ≠ gb259)) (okp := (fun k_ => (w.heap.size ≤ k_) ∧ k_ ≠ gb259)) ?hr ?hp (fun _ hk => hk) ((show ∀ k_, w3.heap.size ≤ k_ → (fun k_ => (w.heap.size ≤ k_) ∧ k_ ≠ gb259) k_ from fun k_ hk => ⟨(Nat.le_trans (Zi hb_) hk), Kd.freshB (g := gb259) (o := .cells #[.int .i64 a0_0, .slice A0_1 l0_1.length c0_1] 27 (0, 0)) (bk_ BK259.out) k_ hk⟩) _ (Nat.le_refl _)) (Below.refl _ _) (Nat.le_refl _) (by simp) ?_; (case hd => rfl); (case hg => rfl); (case hr => first | (go_simp; done) | (go_simp; rfl)); (case hp => exact (Reps.none _ _)); intro v261 w4 ho5 hb hg_ hnew_; clear hg_ hnew_; (first | rw [← Ny260.out] at ho5 | (simp only [Int.reduceToNat] at ho5; rw [← Ny260.out] at ho5)); have n0_ := Aside0.mk (Kd.N_lower ho5 (Zi hb_)); have n1_ := Aside0.mk (Zj (g := gb259) (o := .cells #[.int .i64 a0_0, .slice A0_1 l0_1.length c0_1] 27 (0, 0)) (bk_ BK259.out) hb); have n2_ := Aside0.mk (Zf hb_ hb); clear BK259; clear HB; have HO262 := n0_; have BK259 := n1_; have HB := n2_; clear n0_ n1_ n2_; clear hb ho5; have hcz6_0 : w4.cell? ⟨gb259, 0, none⟩ = some (.int .i64 a0_0) := (Ze BK259.out 0).trans rfl; have hcz6_1 : w4.cell? ⟨gb259, 1, none⟩ = some (.slice A0_1 l0_1.length c0_1) := (Ze BK259.out 1).trans rfl; have hfz6_0 := Zd BK259.out 0; have hfz6_1 := Zd BK259.out 1) | (go_at_call 51; (with_reducible refine (spec_AllComplete.calls k a0_0 _ _ l0_1 t263 _ ?side1 ?side2 A2.out).mono ?_); (case side1 => exact cb_ HR0_1.out); (case side2 => exact HC0_1.out); rintro e w7 ⟨v264, rfl, ho0, hb⟩; have n0_ := Aside0.mk (Kd.N_elder' (rN_ HO262.out) (Kd.N_base ho0) hb); have n1_ := Aside0.mk (Kd.N_lower (ZB (ok' := fun k_ => (w.heap.size ≤ k_) ∧ some k_ ≠ (v261 : Value).ownBlock ∧ k_ ≠ gb259) ho0 (fun k_ hk_ => ⟨(Nat.le_trans (Zi hb_) hk_), (Kd.fresh' (Kd.N_lt (rN_ HO262.out)) k_ hk_), (Kd.freshB (g := gb259) (o := .cells #[.int .i64 a0_0, .slice A0_1 l0_1.length c0_1] 27 (0, 0)) (bk_ BK259.out) k_ hk_)⟩)) (Zi hb_)); have n2_ := Aside0.mk (Zj (g := gb259) (o := .cells #[.int .i64 a0_0, .slice A0_1 l0_1.length c0_1] 27 (0, 0)) (bk_ BK259.out) hb); have n3_ := Aside0.mk (Zf hb_ hb); clear HO262; clear BK259; clear HB; have HO262 := n0_; have HO265 := n1_; have BK259 := n2_; have HB := n3_; clear n0_ n1_ n2_ n3_; (try clear hb); (try clear hb2); (try clear hk); (try clear hi); (try clear ho0)))
 repeat (go_quiet (first | ((with_reducible refine Zr (N := 1) rfl ?_); refine Zu ?hg (N := 1) ?hd (cs := #[.int .i64 a0_0, .slice A0_1 l0_1.length c0_1]) (t := 27) ?hr ?_; (case hd => rfl); (case hg => rfl); (case hr => first | (go_simp; done) | (go_simp; rfl)); intro gb259 hg w3 hbox hb; have n0_ := Aside0.mk (Zf hb_ hb); have n1_ := Aside0.mk (hbox); have n2_ := Aside0.mk ((hz_ hg : w.heap.size ≤ gb259)); have n3_ := Aside0.mk ((hz_ hg : w.heap.size ≤ gb259)); clear HB; have HB := n0_; have BK259 := n1_; have GW259 := n2_; have GE259 := n3_; clear n0_ n1_ n2_ n3_; clear hb hbox hg) | ((with_reducible refine Zr (N := 8) rfl ?_); refine Kd.N_lit (Kd.slice 3 (Kd.int .i64)) _ 38 ?hg (N' := 8) ?hd (xs := ([] : List (List Int))) (inner := []) (ok := (fun k_ => (w.heap.size ≤ k_) ∧ k_ ≠ gb259)) (okp := (fun k_ => (w.heap.size ≤ k_) ∧ k_ ≠ gb259)) ?hr ?hp (fun _ hk => hk) ((show ∀ k_, w3.heap.size ≤ k_ → (fun k_ => (w.heap.size ≤ k_) ∧ k_ ≠ gb259) k_ from fun k_ hk => ⟨(Nat.le_trans (Zi hb_) hk), Kd.freshB (g := gb259) (o := .cells #[.int .i64 a0_0, .slice A0_1 l0_1.length c0_1] 27 (0, 0)) (bk_ BK259.out) k_ hk⟩) _ (Nat.le_refl _)) (Below.refl _ _) (Nat.le_refl _) (by simp) ?_; (case hd => rfl); (case hg => rfl); (case hr => first | (go_simp; done) | (go_simp; rfl)); (case hp => exact (Reps.none _ _)); intro v261 w4 ho5 hb hg_ hnew_; clear hg_ hnew_; (first | rw [← Ny260.out] at ho5 | (simp only [Int.reduceToNat] at ho5; rw [← Ny260.out] at ho5)); have n0_ := Aside0.mk (Kd.N_lower ho5 (Zi hb_)); have n1_ := Aside0.mk (Zj (g := gb259) (o := .cells #[.int .i64 a0_0, .slice A0_1 l0_1.length c0_1] 27 (0, 0)) (bk_ BK259.out) hb); have n2_ := Aside0.mk (Zf hb_ hb); clear BK259; clear HB; have HO262 := n0_; have BK259 := n1_; have HB := n2_; clear n0_ n1_ n2_; clear hb ho5; have hcz6_0 : w4.cell? ⟨gb259, 0, none⟩ = some (.int .i64 a0_0) := (Ze BK259.out 0).trans rfl; have hcz6_1 : w4.cell? ⟨gb259, 1, none⟩ = some (.slice A0_1 l0_1.length c0_1) := (Ze BK259.out 1).trans rfl; have hfz6_0 := Zd BK259.out 0; have hfz6_1 := Zd BK259.out 1) | (go_at_call 51; (with_reducible refine (spec_AllComplete.calls k a0_0 _ _ l0_1 t263 _ ?side1 ?side2 A2.out).mono ?_); (case side1 => exact cb_ HR0_1.out); (case side2 => exact HC0_1.out); rintro e w7 ⟨v264, rfl, ho0, hb⟩; have n0_ := Aside0.mk (Kd.N_elder' (rN_ HO262.out) (Kd.N_base ho0) hb); have n1_ := Aside0.mk (Kd.N_lower (ZB (ok' := fun k_ => (w.heap.size ≤ k_) ∧ some k_ ≠ (v261 : Value).ownBlock ∧ k_ ≠ gb259) ho0 (fun k_ hk_ => ⟨(Nat.le_trans (Zi hb_) hk_), (Kd.fresh' (Kd.N_lt (rN_ HO262.out)) k_ hk_), (Kd.freshB (g := gb259) (o := .cells #[.int .i64 a0_0, .slice A0_1 l0_1.length c0_1] 27 (0, 0)) (bk_ BK259.out) k_ hk_)⟩)) (Zi hb_)); have n2_ := Aside0.mk (Zj (g := gb259) (o := .cells #[.int .i64 a0_0, .slice A0_1 l0_1.length c0_1] 27 (0, 0)) (bk_ BK259.out) hb); have n3_ := Aside0.mk (Zf hb_ hb); clear HO262; clear BK259; clear HB; have HO262 := n0_; have HO265 := n1_; have BK259 := n2_; have HB := n3_; clear n0_ n1_ n2_ n3_; (try clear hb); (try clear hb2); (try clear hk); (try clear hi); (try clear ho0))); try go_wp2_with (first | ((with_reducible refine Zr (N := 1) rfl ?_); refine Zu ?hg (N := 1) ?hd (cs := #[.int .i64 a0_0, .slice A0_1 l0_1.length c0_1]) (t := 27) ?hr ?_; (case hd => rfl); (case hg => rfl); (case hr => first | (go_simp; done) | (go_simp; rfl)); intro gb259 hg w3 hbox hb; have n0_ := Aside0.mk (Zf hb_ hb); have n1_ := Aside0.mk (hbox); have n2_ := Aside0.mk ((hz_ hg : w.heap.size ≤ gb259)); have n3_ := Aside0.mk ((hz_ hg : w.heap.size ≤ gb259)); clear HB; have HB := n0_; have BK259 := n1_; have GW259 := n2_; have GE259 := n3_; clear n0_ n1_ n2_ n3_; clear hb hbox hg) | ((with_reducible refine Zr (N := 8) rfl ?_); refine Kd.N_lit (Kd.slice 3 (Kd.int .i64)) _ 38 ?hg (N' := 8) ?hd (xs := ([] : List (List Int))) (inner := []) (ok := (fun k_ => (w.heap.size ≤ k_) ∧ k_ ≠ gb259)) (okp := (fun k_ => (w.heap.size ≤ k_) ∧ k_ ≠ gb259)) ?hr ?hp (fun _ hk => hk) ((show ∀ k_, w3.heap.size ≤ k_ → (fun k_ => (w.heap.size ≤ k_) ∧ k_ ≠ gb259) k_ from fun k_ hk => ⟨(Nat.le_trans (Zi hb_) hk), Kd.freshB (g := gb259) (o := .cells #[.int .i64 a0_0, .slice A0_1 l0_1.length c0_1] 27 (0, 0)) (bk_ BK259.out) k_ hk⟩) _ (Nat.le_refl _)) (Below.refl _ _) (Nat.le_refl _) (by simp) ?_; (case hd => rfl); (case hg => rfl); (case hr => first | (go_simp; done) | (go_simp; rfl)); (case hp => exact (Reps.none _ _)); intro v261 w4 ho5 hb hg_ hnew_; clear hg_ hnew_; (first | rw [← Ny260.out] at ho5 | (simp only [Int.reduceToNat] at ho5; rw [← Ny260.out] at ho5)); have n0_ := Aside0.mk (Kd.N_lower ho5 (Zi hb_)); have n1_ := Aside0.mk (Zj (g := gb259) (o := .cells #[.int .i64 a0_0, .slice A0_1 l0_1.length c0_1] 27 (0, 0)) (bk_ BK259.out) hb); have n2_ := Aside0.mk (Zf hb_ hb); clear BK259; clear HB; have HO262 := n0_; have BK259 := n1_; have HB := n2_; clear n0_ n1_ n2_; clear hb ho5; have hcz6_0 : w4.cell? ⟨gb259, 0, none⟩ = some (.int .i64 a0_0) := (Ze BK259.out 0).trans rfl; have hcz6_1 : w4.cell? ⟨gb259, 1, none⟩ = some (.slice A0_1 l0_1.length c0_1) := (Ze BK259.out 1).trans rfl; have hfz6_0 := Zd BK259.out 0; have hfz6_1 := Zd BK259.out 1) | (go_at_call 51; (with_reducible refine (spec_AllComplete.calls k a0_0 _ _ l0_1 t263 _ ?side1 ?side2 A2.out).mono ?_); (case side1 => exact cb_ HR0_1.out); (case side2 => exact HC0_1.out); rintro e w7 ⟨v264, rfl, ho0, hb⟩; have n0_ := Aside0.mk (Kd.N_elder' (rN_ HO262.out) (Kd.N_base ho0) hb); have n1_ := Aside0.mk (Kd.N_lower (ZB (ok' := fun k_ => (w.heap.size ≤ k_) ∧ some k_ ≠ (v261 : Value).ownBlock ∧ k_ ≠ gb259) ho0 (fun k_ hk_ => ⟨(Nat.le_trans (Zi hb_) hk_), (Kd.fresh' (Kd.N_lt (rN_ HO262.out)) k_ hk_), (Kd.freshB (g := gb259) (o := .cells #[.int .i64 a0_0, .slice A0_1 l0_1.length c0_1] 27 (0, 0)) (bk_ BK259.out) k_ hk_)⟩)) (Zi hb_)); have n2_ := Aside0.mk (Zj (g := gb259) (o := .cells #[.int .i64 a0_0, .slice A0_1 l0_1.length c0_1] 27 (0, 0)) (bk_ BK259.out) hb); have n3_ := Aside0.mk (Zf hb_ hb); clear HO262; clear BK259; clear HB; have HO262 := n0_; have HO265 := n1_; have BK259 := n2_; have HB := n3_; clear n0_ n1_ n2_ n3_; (try clear hb); (try clear hb2); (try clear hk); (try clear hi); (try clear ho0))))
 go_loopg [3, 5] k (fun kq v3 v5 w' => ∃ (x3_1 : List (List Int)) (x5_1 : Int), v5 = .int .i64 x5_1 ∧ Aside0 (spec_Preferred.l0 kq x3_1 t263 x5_1 = some r) ∧ Aside0 (kq ≤ k) ∧ Aside0 (Kd.N (Kd.slice 3 (Kd.int .i64)) 38 w' w.heap.size (fun k_ => (w.heap.size ≤ k_) ∧ some k_ ≠ (v264 : Value).ownBlock ∧ k_ ≠ gb259) v3 x3_1) ∧ Aside0 (Kd.N (Kd.slice 3 (Kd.int .i64)) 38 w' w.heap.size (fun k_ => (w.heap.size ≤ k_) ∧ some k_ ≠ (v3 : Value).ownBlock ∧ k_ ≠ gb259) v264 t263) ∧ Aside0 (w'.heap[gb259]? = some (.cells #[.int .i64 a0_0, (.slice A0_1 l0_1.length c0_1)] 27 (0, 0))) ∧ Aside0 (Below w.heap.size w w'))
 case atStart => exact ⟨(y260), (0), sm_, H', ⟨Nat.le_refl _⟩, ⟨by (with_reducible repeat (first | apply ZD | apply ZC | apply Kd.N_drew)); exact ZB HO262.out (fun _ hk => ⟨hk.1.1, ⟨hk.2, hk.1.2⟩⟩)⟩, ⟨rN_ HO265.out⟩, ⟨bk_ BK259.out⟩, ⟨hb_⟩⟩
 case round =>
  clear H'
  try clear c1
  try clear p2
  try clear hcz6_0
  try clear hcz6_1
  try clear hfz6_0
  try clear hfz6_1
  obtain ⟨x3_1, x5_1, rfl, HA, HK1, HO_3, HO_4, BK259, HB⟩ := hrel
  cases gk with
  | zero => exact absurd HA.out (by simp [spec_Preferred.l0])
  | succ k1 =>
   have H := HA.out
   clear HA
   simp only [spec_Preferred.l0] at H
   by_cases c8 : x5_1 < (t263.length : Int)
   ·rw [if_pos c8] at H
    have c8b0 : decide (x5_1 < (t263.length : Int)) = true := decide_eq_true c8
    clear c8
    have H' := Aside0.mk H
    clear H
    obtain ⟨Ao9, co9, eo9⟩ := Kd.N_slice HO_4.out
    subst eo9
    go_wp2
    repeat (go_quiet (fail); try go_wp2)
    go_loopg [6, 7] k1 (fun kq v6 v7 w' => ∃ (x6_2 : Bool) (x7_2 : Int), v6 = .bool x6_2 ∧ v7 = .int .i64 x7_2 ∧ Aside0 (spec_Preferred.l1 kq x3_1 t263 x5_1 x6_2 x7_2 = some r) ∧ Aside0 (kq ≤ k1) ∧ Aside0 (Kd.N (Kd.slice 3 (Kd.int .i64)) 38 w' w.heap.size (fun k_ => (w.heap.size ≤ k_) ∧ some k_ ≠ ((.slice Ao9 t263.length co9) : Value).ownBlock ∧ k_ ≠ gb259) u3 x3_1) ∧ Aside0 (Kd.N (Kd.slice 3 (Kd.int .i64)) 38 w' w.heap.size (fun k_ => (w.heap.size ≤ k_) ∧ some k_ ≠ (u3 : Value).ownBlock ∧ k_ ≠ gb259) (.slice Ao9 t263.length co9) t263) ∧ Aside0 (w'.heap[gb259]? = some (.cells #[.int .i64 a0_0, (.slice A0_1 l0_1.length c0_1)] 27 (0, 0))) ∧ Aside0 (Below w.heap.size w w'))
    case atStart => exact ⟨(true), (0), sm_, sm_, H', ⟨Nat.le_refl _⟩, ⟨rN_ HO_3.out⟩, ⟨rN_ HO_4.out⟩, ⟨bk_ BK259.out⟩, ⟨hb_⟩⟩
    case round =>
     clear H'
     try clear c1
     try clear p2
     try clear c8
     try clear c8b0
     try clear hcz6_0
     try clear hcz6_1
     try clear hfz6_0
     try clear hfz6_1
     try clear p2
     obtain ⟨x6_2, x7_2, rfl, rfl, HA, HK2, HO_3, HO_4, BK259, HB⟩ := hrel
     cases gk with
     | zero => exact absurd HA.out (by simp [spec_Preferred.l1])
     | succ k2 =>
      have H := HA.out
      clear HA
      simp only [spec_Preferred.l1] at H
      by_cases c10 : x7_2 < (t263.length : Int)
      ·rw [if_pos c10] at H
       have c10b0 : decide (x7_2 < (t263.length : Int)) = true := decide_eq_true c10
       (try (have c10z := c10b0; rw [hl266_0] at c10z))
       clear c10
       by_cases c11 : x6_2 = true
       ·subst c11
        have H1 : (if x7_2 = x5_1 then (spec_Preferred.l1 k2 x3_1 t263 x5_1 true (wrap64 (x7_2 + 1))) else (if 0 ≤ x5_1 then (if x5_1 < (t263.length : Int) then (if 0 ≤ x7_2 then ((spec_l7Part.f k2 (rd_L1 t263 x5_1) (rd_L1 t263 x7_2)).bind fun t268 => (spec_Preferred.l1 k2 x3_1 t263 x5_1 (!t268) (wrap64 (x7_2 + 1)))) else (none)) else (none)) else (none))) = some r := by rw [if_pos rfl] at H; exact H
        clear H
        have H := H1
        clear H1
        by_cases c12 : x7_2 = x5_1
        ·rw [if_pos c12] at H
         have c12b0 : (x7_2 == x5_1) = true := beq_iff_eq.mpr c12
         have c12b1 : (x7_2 != x5_1) = false := bne_eq_false_iff_eq.mpr c12
         clear c12
         have H' := Aside0.mk H
         clear H
         go_wp2
         repeat (go_quiet (fail); try go_wp2)
         go_roundg k2
         case measure => have := HK1.out; have := HK2.out; omega
         case rel => exact ⟨(true), (wrap64 (x7_2 + 1)), sm_, sm_, H', ⟨by have := HK1.out; have := HK2.out; omega⟩, ⟨rN_ HO_3.out⟩, ⟨rN_ HO_4.out⟩, ⟨bk_ BK259.out⟩, ⟨hb_⟩⟩
        ·rw [if_neg c12] at H
         have c12b0 : (x7_2 == x5_1) = false := beq_eq_false_iff_ne.mpr c12
         have c12b1 : (x7_2 != x5_1) = true := bne_iff_ne.mpr c12
         by_cases c13 : 0 ≤ x5_1
         ·rw [if_pos c13] at H
          have c13b0 : decide (0 ≤ x5_1) = true := decide_eq_true c13
          clear c13
          by_cases c14 : x5_1 < (t263.length : Int)
          ·rw [if_pos c14] at H
           have c14b0 : decide (x5_1 < (t263.length : Int)) = true := decide_eq_true c14
           (try (have c14z := c14b0; rw [hl266_0] at c14z))
           (try (have c14z := c14b0; rw [hl267_0] at c14z))
           clear c14
           by_cases c15 : 0 ≤ x7_2
           ·rw [if_pos c15] at H
            have c15b0 : decide (0 ≤ x7_2) = true := decide_eq_true c15
            clear c15
            replace H := Option.bind_eq_some_iff.mp H
            obtain ⟨t268, A160, H⟩ := H
            replace H : (spec_Preferred.l1 k2 x3_1 t263 x5_1 (!t268) (wrap64 (x7_2 + 1))) = some r := H
            have A16 := Aside0.mk A160
            clear A160
            have H' := Aside0.mk H
            clear H
            have p266 : 0 ≤ (x5_1 : Int) := of_decide_eq_true as_
            have q266 : x5_1 < (t263.length : Int) := of_decide_eq_true as_
            obtain ⟨ad266, A266_0, c266_0, e266, hx266_0, hl266_0, hi266_0⟩ := at_L1 (Kd.N_reads' HO_4.out).2.2 x5_1 p266 q266
            cases e266
            obtain ⟨ce266, hce266, hMe266, hcc266⟩ := Kd.N_get HO_4.out [] x5_1 p266 (by first | exact q266 | exact of_decide_eq_true as_ | (have e_ := (Kd.N_reads' HO_4.out).1; omega))
            obtain ⟨ua266_0, uc266_0, rfl, ul266_0, ge266_0⟩ := Kd.FK_slice_open hMe266
            have hv266_0 := hcc266 0 _ rfl
            rw [Nat.add_zero, show ((Kd.slice 3 (Kd.int .i64))).sz = 1 from rfl, Nat.mul_one] at hv266_0
            replace hv266_0 := Option.some.inj (hv266_0.symm.trans hx266_0)
            injection hv266_0 with hva_ hvn_ hvc_
            rw [hva_] at ge266_0
            rw [hvc_] at ul266_0
            have HL266_0 := Aside0.mk (show Kd.V (Kd.int .i64) 3 _ w.heap.size _ _ (rd_L1 t263 x5_1) from Kd.V_mk ul266_0 ge266_0)
            clear hva_ hvn_ hvc_ ge266_0 ul266_0
            clear hcc266 hce266
            have HR266_0 := Aside0.mk hi266_0
            have HC266_0 := Aside0.mk hl266_0
            clear hi266_0 hl266_0
            replace p266 := eq_true p266
            replace q266 := eq_true q266
            have p267 : 0 ≤ (x7_2 : Int) := of_decide_eq_true as_
            have q267 : x7_2 < (t263.length : Int) := of_decide_eq_true as_
            obtain ⟨ad267, A267_0, c267_0, e267, hx267_0, hl267_0, hi267_0⟩ := at_L1 (Kd.N_reads' HO_4.out).2.2 x7_2 p267 q267
            obtain rfl : ad266 = ad267 := (by injection e267)
            obtain ⟨ce267, hce267, hMe267, hcc267⟩ := Kd.N_get HO_4.out [] x7_2 p267 (by first | exact q267 | exact of_decide_eq_true as_ | (have e_ := (Kd.N_reads' HO_4.out).1; omega))
            obtain ⟨ua267_0, uc267_0, rfl, ul267_0, ge267_0⟩ := Kd.FK_slice_open hMe267
            have hv267_0 := hcc267 0 _ rfl
            rw [Nat.add_zero, show ((Kd.slice 3 (Kd.int .i64))).sz = 1 from rfl, Nat.mul_one] at hv267_0
            replace hv267_0 := Option.some.inj (hv267_0.symm.trans hx267_0)
            injection hv267_0 with hva_ hvn_ hvc_
            rw [hva_] at ge267_0
            rw [hvc_] at ul267_0
            have HL267_0 := Aside0.mk (show Kd.V (Kd.int .i64) 3 _ w.heap.size _ _ (rd_L1 t263 x7_2) from Kd.V_mk ul267_0 ge267_0)
            clear hva_ hvn_ hvc_ ge267_0 ul267_0
            clear hcc267 hce267
            have HR267_0 := Aside0.mk hi267_0
            have HC267_0 := Aside0.mk hl267_0
            clear hi267_0 hl267_0
            replace p267 := eq_true p267
            replace q267 := eq_true q267
            go_wp2_with (first | (go_at_call 52; (with_reducible refine (spec_l7Part.calls k2 _ _ (rd_L1 t263 x5_1) _ _ (rd_L1 t263 x7_2) t268 _ ?side1 ?side2 ?side3 ?side4 A16.out).mono ?_); (case side1 => repeat (first | exact (cf_ HR266_0.out) | (with_reducible refine Zv ?_ _) | (with_reducible refine Zt ?_ _) | (with_reducible refine Zy ?_))); (case side2 => exact HC266_0.out); (case side3 => repeat (first | exact (cf_ HR267_0.out) | (with_reducible refine Zv ?_ _) | (with_reducible refine Zt ?_ _) | (with_reducible refine Zy ?_))); (case side4 => exact HC267_0.out); rintro e w' ⟨rfl, ⟨nd, rfl⟩⟩; (try first | exact ⟨rfl, _, World.drewN_drewN _ _ _⟩ | exact ⟨rfl, _, Eq.trans (World.drewN_drewN _ _ _) (congrArg (World.drewN _) (Nat.add_assoc _ _ _))⟩)))
            repeat (go_quiet (first | (go_at_call 52; (with_reducible refine (spec_l7Part.calls k2 _ _ (rd_L1 t263 x5_1) _ _ (rd_L1 t263 x7_2) t268 _ ?side1 ?side2 ?side3 ?side4 A16.out).mono ?_); (case side1 => repeat (first | exact (cf_ HR266_0.out) | (with_reducible refine Zv ?_ _) | (with_reducible refine Zt ?_ _) | (with_reducible refine Zy ?_))); (case side2 => exact HC266_0.out); (case side3 => repeat (first | exact (cf_ HR267_0.out) | (with_reducible refine Zv ?_ _) | (with_reducible refine Zt ?_ _) | (with_reducible refine Zy ?_))); (case side4 => exact HC267_0.out); rintro e w' ⟨rfl, ⟨nd, rfl⟩⟩; (try first | exact ⟨rfl, _, World.drewN_drewN _ _ _⟩ | exact ⟨rfl, _, Eq.trans (World.drewN_drewN _ _ _) (congrArg (World.drewN _) (Nat.add_assoc _ _ _))⟩))); try go_wp2_with (first | (go_at_call 52; (with_reducible refine (spec_l7Part.calls k2 _ _ (rd_L1 t263 x5_1) _ _ (rd_L1 t263 x7_2) t268 _ ?side1 ?side2 ?side3 ?side4 A16.out).mono ?_); (case side1 => repeat (first | exact (cf_ HR266_0.out) | (with_reducible refine Zv ?_ _) | (with_reducible refine Zt ?_ _) | (with_reducible refine Zy ?_))); (case side2 => exact HC266_0.out); (case side3 => repeat (first | exact (cf_ HR267_0.out) | (with_reducible refine Zv ?_ _) | (with_reducible refine Zt ?_ _) | (with_reducible refine Zy ?_))); (case side4 => exact HC267_0.out); rintro e w' ⟨rfl, ⟨nd, rfl⟩⟩; (try first | exact ⟨rfl, _, World.drewN_drewN _ _ _⟩ | exact ⟨rfl, _, Eq.trans (World.drewN_drewN _ _ _) (congrArg (World.drewN _) (Nat.add_assoc _ _ _))⟩))))
            go_roundg k2
            case measure => have := HK1.out; have := HK2.out; omega
            case rel => exact ⟨(!t268), (wrap64 (x7_2 + 1)), sm_, sm_, H', ⟨by have := HK1.out; have := HK2.out; omega⟩, ⟨rN_ HO_3.out⟩, ⟨rN_ HO_4.out⟩, ⟨bk_ BK259.out⟩, ⟨hb_⟩⟩
           ·rw [if_neg c15] at H
            exact absurd H (by simp)
          ·rw [if_neg c14] at H
           exact absurd H (by simp)
         ·rw [if_neg c13] at H
          exact absurd H (by simp)
       ·replace c11 := Bool.eq_false_iff.mpr c11
        subst c11
        have H1 : (spec_Preferred.l1 k2 x3_1 t263 x5_1 false (wrap64 (x7_2 + 1))) = some r := by rw [if_neg (show ¬ (false = true) by decide)] at H; exact H
        clear H
        have H := H1
        clear H1
        have H' := Aside0.mk H
        clear H
        go_wp2
        repeat (go_quiet (fail); try go_wp2)
        go_roundg k2
        case measure => have := HK1.out; have := HK2.out; omega
        case rel => exact ⟨(false), (wrap64 (x7_2 + 1)), sm_, sm_, H', ⟨by have := HK1.out; have := HK2.out; omega⟩, ⟨rN_ HO_3.out⟩, ⟨rN_ HO_4.out⟩, ⟨bk_ BK259.out⟩, ⟨hb_⟩⟩
      ·rw [if_neg c10] at H
       have c10b0 : decide (x7_2 < (t263.length : Int)) = false := decide_eq_false c10
       (try (have c10z := c10b0; rw [hl267_0] at c10z))
       (try (have c10z := c10b0; rw [hl269_0] at c10z))
       clear c10
       by_cases c17 : x6_2 = true
       ·subst c17
        have H1 : (if 0 ≤ x5_1 then (if x5_1 < (t263.length : Int) then (if x3_1.length < 5864062014805 then (spec_Preferred.l0 k2 (x3_1 ++ [rd_L1 t263 x5_1]) t263 (wrap64 (x5_1 + 1))) else (none)) else (none)) else (none)) = some r := by rw [if_pos rfl] at H; exact H
        clear H
        have H := H1
        clear H1
        by_cases c18 : 0 ≤ x5_1
        ·rw [if_pos c18] at H
         have c18b0 : decide (0 ≤ x5_1) = true := decide_eq_true c18
         clear c18
         by_cases c19 : x5_1 < (t263.length : Int)
         ·rw [if_pos c19] at H
          have c19b0 : decide (x5_1 < (t263.length : Int)) = true := decide_eq_true c19
          (try (have c19z := c19b0; rw [hl269_0] at c19z))
          clear c19
          by_cases c20 : x3_1.length < 5864062014805
          ·rw [if_pos c20] at H
           have LMc20 := Aside0.mk c20
           clear c20
           obtain ⟨y270, hy270⟩ : ∃ y_ : List (List Int), y_ = (x3_1 ++ [rd_L1 t263 x5_1]) := ⟨_, rfl⟩
           replace H : (spec_Preferred.l0 k2 y270 t263 (wrap64 (x5_1 + 1))) = some r := hy_ hy270 H
           have Ny270 := Aside0.mk hy270
           clear hy270
           have H' := Aside0.mk H
           clear H
           have p269 : 0 ≤ (x5_1 : Int) := of_decide_eq_true as_
           have q269 : x5_1 < (t263.length : Int) := of_decide_eq_true as_
           obtain ⟨ad269, A269_0, c269_0, e269, hx269_0, hl269_0, hi269_0⟩ := at_L1 (Kd.N_reads' HO_4.out).2.2 x5_1 p269 q269
           cases e269
           obtain ⟨ce269, hce269, hMe269, hcc269⟩ := Kd.N_get HO_4.out [] x5_1 p269 (by first | exact q269 | exact of_decide_eq_true as_ | (have e_ := (Kd.N_reads' HO_4.out).1; omega))
           obtain ⟨ua269_0, uc269_0, rfl, ul269_0, ge269_0⟩ := Kd.FK_slice_open hMe269
           have hv269_0 := hcc269 0 _ rfl
           rw [Nat.add_zero, show ((Kd.slice 3 (Kd.int .i64))).sz = 1 from rfl, Nat.mul_one] at hv269_0
           replace hv269_0 := Option.some.inj (hv269_0.symm.trans hx269_0)
           injection hv269_0 with hva_ hvn_ hvc_
           rw [hva_] at ge269_0
           rw [hvc_] at ul269_0
           have HL269_0 := Aside0.mk (show Kd.V (Kd.int .i64) 3 _ w.heap.size _ _ (rd_L1 t263 x5_1) from Kd.V_mk ul269_0 ge269_0)
           clear hva_ hvn_ hvc_ ge269_0 ul269_0
           clear hcc269 hce269
           have HR269_0 := Aside0.mk hi269_0
           have HC269_0 := Aside0.mk hl269_0
           clear hi269_0 hl269_0
           replace p269 := eq_true p269
           replace q269 := eq_true q269
           go_wp2_with (first | ((with_reducible refine gate_builtin (b := .append) (xs := #[.tmp 42, .tmp 47]) rfl ?_); at_builtin; refine Kd.N_append (Kd.slice 3 (Kd.int .i64)) (w0 := w) w.heap.size rfl (.tmp 42) (.tmp 47) 22 38 (.slice none 0 0) 24 rfl Try.underlying22 info38 rfl (by decide) (by omega) u3 x3_1 (rd_L1 t263 x5_1) [.slice A269_0 (rd_L1 t263 x5_1).length c269_0] (fun k_ => (w.heap.size ≤ k_) ∧ some k_ ≠ (.slice (some ad269) t263.length co9 : Value).ownBlock ∧ k_ ≠ gb259) (fun k_ => ((fun k_ => (w.heap.size ≤ k_) ∧ some k_ ≠ (.slice (some ad269) t263.length co9 : Value).ownBlock ∧ k_ ≠ gb259)) k_ ∧ some k_ ≠ (u3 : Value).ownBlock) rfl rfl ?aP (fun _ hk => hk) ?aF ?aO ?aB ?aS ?aL ?_; (case aP => first | exact (Kd.FK_slice_mk (Kd.V_reads' (Zz (ok' := (fun k_ => ((fun k_ => (w.heap.size ≤ k_) ∧ some k_ ≠ (.slice (some ad269) t263.length co9 : Value).ownBlock ∧ k_ ≠ gb259)) k_ ∧ some k_ ≠ (u3 : Value).ownBlock)) (HL269_0.out) (fun k_ hk => ⟨⟨hk.1.1, ⟨hk.2, hk.1.2.2⟩⟩, hk.1.2.1⟩))).2.1 (Kd.V_F (Zz (ok' := (fun k_ => ((fun k_ => (w.heap.size ≤ k_) ∧ some k_ ≠ (.slice (some ad269) t263.length co9 : Value).ownBlock ∧ k_ ≠ gb259)) k_ ∧ some k_ ≠ (u3 : Value).ownBlock)) (HL269_0.out) (fun k_ hk => ⟨⟨hk.1.1, ⟨hk.2, hk.1.2.2⟩⟩, hk.1.2.1⟩)))) | (have q1 := ZA HL269_0.out nq; have q2 := Zz (ok' := (fun k_ => ((fun k_ => (w.heap.size ≤ k_) ∧ some k_ ≠ (.slice (some ad269) t263.length co9 : Value).ownBlock ∧ k_ ≠ gb259)) k_ ∧ some k_ ≠ (u3 : Value).ownBlock)) q1 (fun k_ hk => ⟨⟨hk.1.1, ⟨hk.2, hk.1.2.2⟩⟩, hk.1.2.1⟩); exact Kd.FK_slice_mk (Kd.V_reads' q2).2.1 (Kd.V_F q2))); (case aB => exact hb_); (case aF => exact (fun k_ hk => ⟨(Nat.le_trans (Zi hb_) hk), Kd.fresh' (Kd.N_lt (rN_ HO_4.out)) k_ hk, Kd.freshB (g := gb259) (o := .cells #[.int .i64 a0_0, .slice A0_1 l0_1.length c0_1] 27 (0, 0)) (bk_ BK259.out) k_ hk⟩)); (case aO => exact (rN_ HO_3.out)); (case aS => exact (Zi hb_)); (case aL => have := LMc20.out; omega); intro v271 w21 ho hb hg hat; rw [← Ny270.out] at ho; have n0_ := Aside0.mk (Kd.N_afterv (ok := (fun k_ => (w.heap.size ≤ k_) ∧ k_ ≠ gb259)) (by (with_reducible repeat (first | apply ZD | apply ZC | apply Kd.N_drew)); exact ZB HO_4.out (fun _ hk => ⟨⟨hk.1, hk.2.2⟩, hk.2.1⟩)) hg hat); have n1_ := Aside0.mk (blk_grown (g := gb259) (o := .cells #[.int .i64 a0_0, .slice A0_1 l0_1.length c0_1] 27 (0, 0)) (bk_ BK259.out) hg (Kd.N_ne HO_3.out BK259.out (by decide))); have n2_ := Aside0.mk (Kd.V_afterv (ok := (fun k_ => (w.heap.size ≤ k_) ∧ some k_ ≠ (.slice (some ad269) t263.length co9 : Value).ownBlock ∧ k_ ≠ gb259)) (by (with_reducible repeat (first | apply Kd.V_alloc | apply ZA | apply Kd.V_drew)); exact Zz HL269_0.out (fun _ hk => ⟨⟨hk.1.1, ⟨hk.2, hk.1.2.2⟩⟩, hk.1.2.1⟩)) hg hat); have n3_ := Aside0.mk (hb); have n4_ := Aside0.mk (ho); clear HO_4; clear BK259; clear HL269_0; clear HB; clear HO_3; have HO_4 := n0_; have BK259 := n1_; have HL269_0 := n2_; have HB := n3_; have HO272 := n4_; clear n0_ n1_ n2_ n3_ n4_; clear ho hb hg hat))
           repeat (go_quiet (first | ((with_reducible refine gate_builtin (b := .append) (xs := #[.tmp 42, .tmp 47]) rfl ?_); at_builtin; refine Kd.N_append (Kd.slice 3 (Kd.int .i64)) (w0 := w) w.heap.size rfl (.tmp 42) (.tmp 47) 22 38 (.slice none 0 0) 24 rfl Try.underlying22 info38 rfl (by decide) (by omega) u3 x3_1 (rd_L1 t263 x5_1) [.slice A269_0 (rd_L1 t263 x5_1).length c269_0] (fun k_ => (w.heap.size ≤ k_) ∧ some k_ ≠ (.slice (some ad269) t263.length co9 : Value).ownBlock ∧ k_ ≠ gb259) (fun k_ => ((fun k_ => (w.heap.size ≤ k_) ∧ some k_ ≠ (.slice (some ad269) t263.length co9 : Value).ownBlock ∧ k_ ≠ gb259)) k_ ∧ some k_ ≠ (u3 : Value).ownBlock) rfl rfl ?aP (fun _ hk => hk) ?aF ?aO ?aB ?aS ?aL ?_; (case aP => first | exact (Kd.FK_slice_mk (Kd.V_reads' (Zz (ok' := (fun k_ => ((fun k_ => (w.heap.size ≤ k_) ∧ some k_ ≠ (.slice (some ad269) t263.length co9 : Value).ownBlock ∧ k_ ≠ gb259)) k_ ∧ some k_ ≠ (u3 : Value).ownBlock)) (HL269_0.out) (fun k_ hk => ⟨⟨hk.1.1, ⟨hk.2, hk.1.2.2⟩⟩, hk.1.2.1⟩))).2.1 (Kd.V_F (Zz (ok' := (fun k_ => ((fun k_ => (w.heap.size ≤ k_) ∧ some k_ ≠ (.slice (some ad269) t263.length co9 : Value).ownBlock ∧ k_ ≠ gb259)) k_ ∧ some k_ ≠ (u3 : Value).ownBlock)) (HL269_0.out) (fun k_ hk => ⟨⟨hk.1.1, ⟨hk.2, hk.1.2.2⟩⟩, hk.1.2.1⟩)))) | (have q1 := ZA HL269_0.out nq; have q2 := Zz (ok' := (fun k_ => ((fun k_ => (w.heap.size ≤ k_) ∧ some k_ ≠ (.slice (some ad269) t263.length co9 : Value).ownBlock ∧ k_ ≠ gb259)) k_ ∧ some k_ ≠ (u3 : Value).ownBlock)) q1 (fun k_ hk => ⟨⟨hk.1.1, ⟨hk.2, hk.1.2.2⟩⟩, hk.1.2.1⟩); exact Kd.FK_slice_mk (Kd.V_reads' q2).2.1 (Kd.V_F q2))); (case aB => exact hb_); (case aF => exact (fun k_ hk => ⟨(Nat.le_trans (Zi hb_) hk), Kd.fresh' (Kd.N_lt (rN_ HO_4.out)) k_ hk, Kd.freshB (g := gb259) (o := .cells #[.int .i64 a0_0, .slice A0_1 l0_1.length c0_1] 27 (0, 0)) (bk_ BK259.out) k_ hk⟩)); (case aO => exact (rN_ HO_3.out)); (case aS => exact (Zi hb_)); (case aL => have := LMc20.out; omega); intro v271 w21 ho hb hg hat; rw [← Ny270.out] at ho; have n0_ := Aside0.mk (Kd.N_afterv (ok := (fun k_ => (w.heap.size ≤ k_) ∧ k_ ≠ gb259)) (by (with_reducible repeat (first | apply ZD | apply ZC | apply Kd.N_drew)); exact ZB HO_4.out (fun _ hk => ⟨⟨hk.1, hk.2.2⟩, hk.2.1⟩)) hg hat); have n1_ := Aside0.mk (blk_grown (g := gb259) (o := .cells #[.int .i64 a0_0, .slice A0_1 l0_1.length c0_1] 27 (0, 0)) (bk_ BK259.out) hg (Kd.N_ne HO_3.out BK259.out (by decide))); have n2_ := Aside0.mk (Kd.V_afterv (ok := (fun k_ => (w.heap.size ≤ k_) ∧ some k_ ≠ (.slice (some ad269) t263.length co9 : Value).ownBlock ∧ k_ ≠ gb259)) (by (with_reducible repeat (first | apply Kd.V_alloc | apply ZA | apply Kd.V_drew)); exact Zz HL269_0.out (fun _ hk => ⟨⟨hk.1.1, ⟨hk.2, hk.1.2.2⟩⟩, hk.1.2.1⟩)) hg hat); have n3_ := Aside0.mk (hb); have n4_ := Aside0.mk (ho); clear HO_4; clear BK259; clear HL269_0; clear HB; clear HO_3; have HO_4 := n0_; have BK259 := n1_; have HL269_0 := n2_; have HB := n3_; have HO272 := n4_; clear n0_ n1_ n2_ n3_ n4_; clear ho hb hg hat)); try go_wp2_with (first | ((with_reducible refine gate_builtin (b := .append) (xs := #[.tmp 42, .tmp 47]) rfl ?_); at_builtin; refine Kd.N_append (Kd.slice 3 (Kd.int .i64)) (w0 := w) w.heap.size rfl (.tmp 42) (.tmp 47) 22 38 (.slice none 0 0) 24 rfl Try.underlying22 info38 rfl (by decide) (by omega) u3 x3_1 (rd_L1 t263 x5_1) [.slice A269_0 (rd_L1 t263 x5_1).length c269_0] (fun k_ => (w.heap.size ≤ k_) ∧ some k_ ≠ (.slice (some ad269) t263.length co9 : Value).ownBlock ∧ k_ ≠ gb259) (fun k_ => ((fun k_ => (w.heap.size ≤ k_) ∧ some k_ ≠ (.slice (some ad269) t263.length co9 : Value).ownBlock ∧ k_ ≠ gb259)) k_ ∧ some k_ ≠ (u3 : Value).ownBlock) rfl rfl ?aP (fun _ hk => hk) ?aF ?aO ?aB ?aS ?aL ?_; (case aP => first | exact (Kd.FK_slice_mk (Kd.V_reads' (Zz (ok' := (fun k_ => ((fun k_ => (w.heap.size ≤ k_) ∧ some k_ ≠ (.slice (some ad269) t263.length co9 : Value).ownBlock ∧ k_ ≠ gb259)) k_ ∧ some k_ ≠ (u3 : Value).ownBlock)) (HL269_0.out) (fun k_ hk => ⟨⟨hk.1.1, ⟨hk.2, hk.1.2.2⟩⟩, hk.1.2.1⟩))).2.1 (Kd.V_F (Zz (ok' := (fun k_ => ((fun k_ => (w.heap.size ≤ k_) ∧ some k_ ≠ (.slice (some ad269) t263.length co9 : Value).ownBlock ∧ k_ ≠ gb259)) k_ ∧ some k_ ≠ (u3 : Value).ownBlock)) (HL269_0.out) (fun k_ hk => ⟨⟨hk.1.1, ⟨hk.2, hk.1.2.2⟩⟩, hk.1.2.1⟩)))) | (have q1 := ZA HL269_0.out nq; have q2 := Zz (ok' := (fun k_ => ((fun k_ => (w.heap.size ≤ k_) ∧ some k_ ≠ (.slice (some ad269) t263.length co9 : Value).ownBlock ∧ k_ ≠ gb259)) k_ ∧ some k_ ≠ (u3 : Value).ownBlock)) q1 (fun k_ hk => ⟨⟨hk.1.1, ⟨hk.2, hk.1.2.2⟩⟩, hk.1.2.1⟩); exact Kd.FK_slice_mk (Kd.V_reads' q2).2.1 (Kd.V_F q2))); (case aB => exact hb_); (case aF => exact (fun k_ hk => ⟨(Nat.le_trans (Zi hb_) hk), Kd.fresh' (Kd.N_lt (rN_ HO_4.out)) k_ hk, Kd.freshB (g := gb259) (o := .cells #[.int .i64 a0_0, .slice A0_1 l0_1.length c0_1] 27 (0, 0)) (bk_ BK259.out) k_ hk⟩)); (case aO => exact (rN_ HO_3.out)); (case aS => exact (Zi hb_)); (case aL => have := LMc20.out; omega); intro v271 w21 ho hb hg hat; rw [← Ny270.out] at ho; have n0_ := Aside0.mk (Kd.N_afterv (ok := (fun k_ => (w.heap.size ≤ k_) ∧ k_ ≠ gb259)) (by (with_reducible repeat (first | apply ZD | apply ZC | apply Kd.N_drew)); exact ZB HO_4.out (fun _ hk => ⟨⟨hk.1, hk.2.2⟩, hk.2.1⟩)) hg hat); have n1_ := Aside0.mk (blk_grown (g := gb259) (o := .cells #[.int .i64 a0_0, .slice A0_1 l0_1.length c0_1] 27 (0, 0)) (bk_ BK259.out) hg (Kd.N_ne HO_3.out BK259.out (by decide))); have n2_ := Aside0.mk (Kd.V_afterv (ok := (fun k_ => (w.heap.size ≤ k_) ∧ some k_ ≠ (.slice (some ad269) t263.length co9 : Value).ownBlock ∧ k_ ≠ gb259)) (by (with_reducible repeat (first | apply Kd.V_alloc | apply ZA | apply Kd.V_drew)); exact Zz HL269_0.out (fun _ hk => ⟨⟨hk.1.1, ⟨hk.2, hk.1.2.2⟩⟩, hk.1.2.1⟩)) hg hat); have n3_ := Aside0.mk (hb); have n4_ := Aside0.mk (ho); clear HO_4; clear BK259; clear HL269_0; clear HB; clear HO_3; have HO_4 := n0_; have BK259 := n1_; have HL269_0 := n2_; have HB := n3_; have HO272 := n4_; clear n0_ n1_ n2_ n3_ n4_; clear ho hb hg hat)))
           go_roundg k2
           case measure => have := HK1.out; have := HK2.out; omega
           case rel => exact ⟨(y270), (wrap64 (x5_1 + 1)), sm_, H', ⟨by have := HK1.out; have := HK2.out; omega⟩, ⟨rN_ HO272.out⟩, ⟨by (with_reducible repeat (first | apply ZD | apply ZC | apply Kd.N_drew)); exact ZB HO_4.out (fun _ hk => ⟨hk.1.1, ⟨hk.2, hk.1.2⟩⟩)⟩, ⟨bk_ BK259.out⟩, ⟨hb_⟩⟩
          ·rw [if_neg c20] at H
           exact absurd H (by simp)
         ·rw [if_neg c19] at H
          exact absurd H (by simp)
        ·rw [if_neg c18] at H
         exact absurd H (by simp)
       ·replace c17 := Bool.eq_false_iff.mpr c17
        subst c17
        have H1 : (spec_Preferred.l0 k2 x3_1 t263 (wrap64 (x5_1 + 1))) = some r := by rw [if_neg (show ¬ (false = true) by decide)] at H; exact H
        clear H
        have H := H1
        clear H1
        have H' := Aside0.mk H
        clear H
        go_wp2
        repeat (go_quiet (fail); try go_wp2)
        go_roundg k2
        case measure => have := HK1.out; have := HK2.out; omega
        case rel => exact ⟨(x3_1), (wrap64 (x5_1 + 1)), sm_, H', ⟨by have := HK1.out; have := HK2.out; omega⟩, ⟨rN_ HO_3.out⟩, ⟨rN_ HO_4.out⟩, ⟨bk_ BK259.out⟩, ⟨hb_⟩⟩
   ·rw [if_neg c8] at H
    have c8b0 : decide (x5_1 < (t263.length : Int)) = false := decide_eq_false c8
    (try (have c8z := c8b0; rw [hl269_0] at c8z))
    clear c8
    obtain rfl := Option.some.inj H
    obtain ⟨Ao22, co22, eo22⟩ := Kd.N_slice HO_4.out
    subst eo22
    go_wp2
    repeat (go_quiet (fail); try go_wp2)
    go_ret
    exact ⟨_, er_, by (with_reducible repeat (first | apply ZD | apply ZC | apply Kd.N_drew)); exact ZB HO_3.out (fun _ hk => hk.1), hb_⟩

/-! ### spec_InAll: function 47 -/
mutual
def spec_InAll.l0 : Nat → List (List Int) → List Int → Int → Option (List Int)
 | 0, _, _, _ => none
 | k + 1, x0, x3, x4 => if (x0.length : Int) > 0 then (if 0 < (x0.length : Int) then (spec_InAll.j1 k x0 x3 x4 (decide (x4 < ((rd_L1 x0 0).length : Int)))) else (none)) else (spec_InAll.j1 k x0 x3 x4 false)
def spec_InAll.j1 : Nat → List (List Int) → List Int → Int → Bool → Option (List Int)
 | 0, _, _, _, _ => none
 | k + 1, x0, x3, x4, x18 => if x18 = true then (spec_InAll.l1 k x0 x3 x4 true 1) else (some x3)
def spec_InAll.l1 : Nat → List (List Int) → List Int → Int → Bool → Int → Option (List Int)
 | 0, _, _, _, _, _ => none
 | k + 1, x0, x3, x4, x5, x6 => if x6 < (x0.length : Int) then (if x5 = true then (if 0 ≤ x6 then (if 0 < (x0.length : Int) then (if 0 ≤ x4 then (if x4 < ((rd_L1 x0 0).length : Int) then ((spec_l4Has.f k (rd_L1 x0 x6) (rd (rd_L1 x0 0) x4)).bind fun t280 => (spec_InAll.l1 k x0 x3 x4 t280 (wrap64 (x6 + 1)))) else (none)) else (none)) else (none)) else (none)) else (spec_InAll.l1 k x0 x3 x4 false (wrap64 (x6 + 1)))) else (if x5 = true then (if 0 < (x0.length : Int) then (if 0 ≤ x4 then (if x4 < ((rd_L1 x0 0).length : Int) then (if x3.length < 17592186044416 then (spec_InAll.l0 k x0 (x3 ++ [rd (rd_L1 x0 0) x4]) (wrap64 (x4 + 1))) else (none)) else (none)) else (none)) else (none)) else (spec_InAll.l0 k x0 x3 (wrap64 (x4 + 1))))
end
def spec_InAll.f (k : Nat) (l0 : List (List Int)) : Option (List Int) := spec_InAll.l0 k l0 (([] : List Int)) 0
theorem spec_InAll.mono_l : ∀ k, (∀ y0 y1 y2, LeO (spec_InAll.l0 k y0 y1 y2) (spec_InAll.l0 (k + 1) y0 y1 y2)) ∧ (∀ y0 y1 y2 y3, LeO (spec_InAll.j1 k y0 y1 y2 y3) (spec_InAll.j1 (k + 1) y0 y1 y2 y3)) ∧ (∀ y0 y1 y2 y3 y4, LeO (spec_InAll.l1 k y0 y1 y2 y3 y4) (spec_InAll.l1 (k + 1) y0 y1 y2 y3 y4))
 | 0 => ⟨fun _ _ _ r h => by simp [spec_InAll.l0] at h, fun _ _ _ _ r h => by simp [spec_InAll.j1] at h, fun _ _ _ _ _ r h => by simp [spec_InAll.l1] at h⟩
 | k + 1 => by
  obtain ⟨ih0, ih1, ih2⟩ := spec_InAll.mono_l k
  refine ⟨?_, ?_, ?_⟩
  ·intro y0 y1 y2
   unfold spec_InAll.l0
   repeat' first
   | (with_reducible exact ih0 _ _ _)
   | (with_reducible exact ih1 _ _ _ _)
   | (with_reducible exact ih2 _ _ _ _ _)
   | (with_reducible exact spec_l4Has.mono _ _ _)
   | (with_reducible exact Zs _)
   | (with_reducible exact Zg _)
   | (with_reducible refine Zn ?_ ?_)
   | (with_reducible refine Zh ?_ (fun _ => ?_))
   | exact ih0 _ _ _
   | exact ih1 _ _ _ _
   | exact ih2 _ _ _ _ _
   | exact spec_l4Has.mono _ _ _
   | exact Zg _
   | refine Zn ?_ ?_
   | refine Zh ?_ (fun _ => ?_)
  ·intro y0 y1 y2 y3
   unfold spec_InAll.j1
   repeat' first
   | (with_reducible exact ih0 _ _ _)
   | (with_reducible exact ih1 _ _ _ _)
   | (with_reducible exact ih2 _ _ _ _ _)
   | (with_reducible exact spec_l4Has.mono _ _ _)
   | (with_reducible exact Zs _)
   | (with_reducible exact Zg _)
   | (with_reducible refine Zn ?_ ?_)
   | (with_reducible refine Zh ?_ (fun _ => ?_))
   | exact ih0 _ _ _
   | exact ih1 _ _ _ _
   | exact ih2 _ _ _ _ _
   | exact spec_l4Has.mono _ _ _
   | exact Zg _
   | refine Zn ?_ ?_
   | refine Zh ?_ (fun _ => ?_)
  ·intro y0 y1 y2 y3 y4
   unfold spec_InAll.l1
   repeat' first
   | (with_reducible exact ih0 _ _ _)
   | (with_reducible exact ih1 _ _ _ _)
   | (with_reducible exact ih2 _ _ _ _ _)
   | (with_reducible exact spec_l4Has.mono _ _ _)
   | (with_reducible exact Zs _)
   | (with_reducible exact Zg _)
   | (with_reducible refine Zn ?_ ?_)
   | (with_reducible refine Zh ?_ (fun _ => ?_))
   | exact ih0 _ _ _
   | exact ih1 _ _ _ _
   | exact ih2 _ _ _ _ _
   | exact spec_l4Has.mono _ _ _
   | exact Zg _
   | refine Zn ?_ ?_
   | refine Zh ?_ (fun _ => ?_)
theorem spec_InAll.mono : ∀ a0 k, LeO (spec_InAll.f k a0) (spec_InAll.f (k + 1) a0) := by
 intro a0 k
 obtain ⟨ih0, ih1, ih2⟩ := spec_InAll.mono_l k
 unfold spec_InAll.f
 repeat' first
   | (with_reducible exact ih0 _ _ _)
   | (with_reducible exact ih1 _ _ _ _)
   | (with_reducible exact ih2 _ _ _ _ _)
   | (with_reducible exact spec_l4Has.mono _ _ _)
   | (with_reducible exact Zs _)
   | (with_reducible exact Zg _)
   | (with_reducible refine Zn ?_ ?_)
   | (with_reducible refine Zh ?_ (fun _ => ?_))
   | exact ih0 _ _ _
   | exact ih1 _ _ _ _
   | exact ih2 _ _ _ _ _
   | exact spec_l4Has.mono _ _ _
   | exact Zg _
   | refine Zn ?_ ?_
   | refine Zh ?_ (fun _ => ?_)
set_option maxHeartbeats 8000000 in
set_option maxRecDepth 100000 in
theorem spec_InAll.calls (k : Nat) (A0 : Option Addr) (c0 : Nat) (l0 : List (List Int)) (r : List Int) (w : World) (hr0 : Kd.C (Kd.slice 3 (Kd.int .i64)) w A0 l0.length l0) (hc0 : l0.length ≤ c0) (h : spec_InAll.f k l0 = some r) :
  Calls Try.prog 47 #[.slice A0 l0.length c0] w fun e w' => ∃ v0_ : Value, e = .returned (v0_) ∧ Kd.R (Kd.int .i64) 3 w' w.heap.size (fun _ => True) v0_ r ∧ Below w.heap.size w w' := by
 have HR0 := Aside0.mk hr0
 have HC0 := Aside0.mk hc0
 clear hr0 hc0
 have HB := Aside0.mk (Below.refl w.heap.size w)
 have H : (spec_InAll.l0 k l0 (([] : List Int)) 0) = some r := h
 clear h
 obtain ⟨y273, hy273⟩ : ∃ y_ : List Int, y_ = (([] : List Int)) := ⟨_, rfl⟩
 replace H : (spec_InAll.l0 k l0 y273 0) = some r := hy_ hy273 H
 have Ny273 := Aside0.mk hy273
 clear hy273
 have H' := Aside0.mk H
 clear H
 go_enter Try.func47, Try.ntmps47
 go_wp2_with (first | ((with_reducible refine Zr (N := 7) rfl ?_); (try (refine gate_guard (by rfl) ?_; dsimp only)); refine Kd.R_lit (Kd.int .i64) _ 3 ?hg (N := 7) ?hd (xs := ([] : List Int)) (inner := []) (ok := fun _ => True) (okp := fun _ => True) ?hr ?hp (fun _ hk => hk) trivial (Below.refl _ _) (Nat.le_refl _) (by simp) ?_; (case hd => rfl); (case hg => rfl); (case hr => first | (go_simp; done) | (go_simp; rfl)); (case hp => exact (Reps.none _ _)); intro v274 w2 ho3 hb hg_ hnew_; clear hg_ hnew_; (first | rw [← Ny273.out] at ho3 | (simp only [Int.reduceToNat] at ho3; rw [← Ny273.out] at ho3)); have n0_ := Aside0.mk (Kd.R_lower ho3 (Zi hb_)); have n1_ := Aside0.mk (Zf hb_ hb); clear HB; have HO275 := n0_; have HB := n1_; clear n0_ n1_; clear hb ho3))
 repeat (go_quiet (first | ((with_reducible refine Zr (N := 7) rfl ?_); (try (refine gate_guard (by rfl) ?_; dsimp only)); refine Kd.R_lit (Kd.int .i64) _ 3 ?hg (N := 7) ?hd (xs := ([] : List Int)) (inner := []) (ok := fun _ => True) (okp := fun _ => True) ?hr ?hp (fun _ hk => hk) trivial (Below.refl _ _) (Nat.le_refl _) (by simp) ?_; (case hd => rfl); (case hg => rfl); (case hr => first | (go_simp; done) | (go_simp; rfl)); (case hp => exact (Reps.none _ _)); intro v274 w2 ho3 hb hg_ hnew_; clear hg_ hnew_; (first | rw [← Ny273.out] at ho3 | (simp only [Int.reduceToNat] at ho3; rw [← Ny273.out] at ho3)); have n0_ := Aside0.mk (Kd.R_lower ho3 (Zi hb_)); have n1_ := Aside0.mk (Zf hb_ hb); clear HB; have HO275 := n0_; have HB := n1_; clear n0_ n1_; clear hb ho3)); try go_wp2_with (first | ((with_reducible refine Zr (N := 7) rfl ?_); (try (refine gate_guard (by rfl) ?_; dsimp only)); refine Kd.R_lit (Kd.int .i64) _ 3 ?hg (N := 7) ?hd (xs := ([] : List Int)) (inner := []) (ok := fun _ => True) (okp := fun _ => True) ?hr ?hp (fun _ hk => hk) trivial (Below.refl _ _) (Nat.le_refl _) (by simp) ?_; (case hd => rfl); (case hg => rfl); (case hr => first | (go_simp; done) | (go_simp; rfl)); (case hp => exact (Reps.none _ _)); intro v274 w2 ho3 hb hg_ hnew_; clear hg_ hnew_; (first | rw [← Ny273.out] at ho3 | (simp only [Int.reduceToNat] at ho3; rw [← Ny273.out] at ho3)); have n0_ := Aside0.mk (Kd.R_lower ho3 (Zi hb_)); have n1_ := Aside0.mk (Zf hb_ hb); clear HB; have HO275 := n0_; have HB := n1_; clear n0_ n1_; clear hb ho3)))
 go_loopg [3, 4] k (fun kq v3 v4 w' => ∃ (x3_1 : List Int) (x4_1 : Int), v4 = .int .i64 x4_1 ∧ Aside0 (spec_InAll.l0 kq l0 x3_1 x4_1 = some r) ∧ Aside0 (kq ≤ k) ∧ Aside0 (Kd.R (Kd.int .i64) 3 w' w.heap.size (fun _ => True) v3 x3_1) ∧ Aside0 (Below w.heap.size w w'))
 case atStart => exact ⟨(y273), (0), sm_, H', ⟨Nat.le_refl _⟩, ⟨rR_ HO275.out⟩, ⟨hb_⟩⟩
 case round =>
  clear H'
  try clear p2
  obtain ⟨x3_1, x4_1, rfl, HA, HK1, HO_3, HB⟩ := hrel
  cases gk with
  | zero => exact absurd HA.out (by simp [spec_InAll.l0])
  | succ k1 =>
   have H := HA.out
   clear HA
   simp only [spec_InAll.l0] at H
   have HC4 := Aside0.mk H
   clear H
   go_upto_region 3 with (fail)
   repeat (go_quiet (fail); go_upto_region 3 with (fail))
   go_cut [18] (fun v18 wc => ∃ (kq : Nat) (x18_3 : Bool), v18 = .bool x18_3 ∧ Aside0 (spec_InAll.j1 kq l0 x3_1 x4_1 x18_3 = some r) ∧ Aside0 (kq ≤ k1) ∧ Aside0 (Kd.R (Kd.int .i64) 3 wc w.heap.size (fun _ => True) u3 x3_1) ∧ Aside0 (Below w.heap.size w wc))
   case first =>
    have H := HC4.out
    clear HC4
    by_cases c5 : (l0.length : Int) > 0
    ·rw [if_pos c5] at H
     have c5b0 : decide (0 < (l0.length : Int)) = true := decide_eq_true c5
     have c5b1 : decide (0 < l0.length) = true := decide_eq_true (by omega)
     clear c5
     (first | rw [c5b0] | (simp only [Zk, Zm]; rw [c5b0]) | skip)
     by_cases c6 : 0 < (l0.length : Int)
     ·rw [if_pos c6] at H
      have c6b0 : decide (0 < (l0.length : Int)) = true := decide_eq_true c6
      have c6b1 : decide (0 < l0.length) = true := decide_eq_true (by omega)
      clear c6
      have H' := Aside0.mk H
      clear H
      have p276 : 0 ≤ (0 : Int) := (by omega)
      have q276 : 0 < (l0.length : Int) := of_decide_eq_true as_
      obtain ⟨ad276, A276_0, c276_0, e276, hx276_0, hl276_0, hi276_0⟩ := at_L1 HR0.out 0 p276 q276
      cases e276
      have qi276 : (0 < l0.length) = True := eq_true (by omega)
      (try rw [show ((0 : Int)).toNat = 0 from rfl] at hx276_0)
      (try rw [Addr.add_zero'] at hx276_0)
      replace hx276_0 := (HB.out.cell (World.block_lt_of_cell? w _ hx276_0)).trans hx276_0
      have HR276_0 := Aside0.mk hi276_0
      have HC276_0 := Aside0.mk hl276_0
      clear hi276_0 hl276_0
      replace p276 := eq_true p276
      replace q276 := eq_true q276
      go_wp2
      repeat (go_quiet (fail); try go_wp2)
      go_meet
      case rel => exact ⟨_, (decide (x4_1 < ((rd_L1 l0 0).length : Int))), sm_, H', ⟨by have := HK1.out; first | omega | exact Nat.le_refl _⟩, ⟨rR_ HO_3.out⟩, ⟨hb_⟩⟩
     ·rw [if_neg c6] at H
      exact absurd H (by simp)
    ·rw [if_neg c5] at H
     have c5b0 : decide (0 < (l0.length : Int)) = false := decide_eq_false c5
     have c5b1 : decide (0 < l0.length) = false := decide_eq_false (by omega)
     clear c5
     (first | rw [c5b0] | (simp only [Zk, Zm]; rw [c5b0]) | skip)
     have H' := Aside0.mk H
     clear H
     go_wp2
     repeat (go_quiet (fail); try go_wp2)
     go_meet
     case rel => exact ⟨_, (false), sm_, H', ⟨by have := HK1.out; first | omega | exact Nat.le_refl _⟩, ⟨rR_ HO_3.out⟩, ⟨hb_⟩⟩
   case rest =>
    clear HC4
    try clear c2
    try clear p2
    try clear q2
    try clear hx2
    try clear qi2
    try clear c4
    try clear c5
    try clear c5b0
    try clear c5b1
    try clear c6
    try clear c6b0
    try clear c6b1
    try clear hx276_0
    try clear p2
    try clear p276
    try clear q276
    obtain ⟨kq, x18_3, rfl, HA, HJ3, HO_3, HB⟩ := hcut
    cases kq with
    | zero => exact absurd HA.out (by simp [spec_InAll.j1])
    | succ kj3 =>
     have H := HA.out
     clear HA
     simp only [spec_InAll.j1] at H
     by_cases c7 : x18_3 = true
     ·subst c7
      have H1 : (spec_InAll.l1 kj3 l0 x3_1 x4_1 true 1) = some r := by rw [if_pos rfl] at H; exact H
      clear H
      have H := H1
      clear H1
      have H' := Aside0.mk H
      clear H
      go_wp2
      repeat (go_quiet (fail); try go_wp2)
      go_loopg [5, 6] kj3 (fun kq v5 v6 w' => ∃ (x5_3 : Bool) (x6_3 : Int), v5 = .bool x5_3 ∧ v6 = .int .i64 x6_3 ∧ Aside0 (spec_InAll.l1 kq l0 x3_1 x4_1 x5_3 x6_3 = some r) ∧ Aside0 (kq ≤ kj3) ∧ Aside0 (Kd.R (Kd.int .i64) 3 w' w.heap.size (fun _ => True) u3 x3_1) ∧ Aside0 (Below w.heap.size w w'))
      case atStart => exact ⟨(true), (1), sm_, sm_, H', ⟨Nat.le_refl _⟩, ⟨rR_ HO_3.out⟩, ⟨hb_⟩⟩
      case round =>
       clear H'
       try clear c2
       try clear p2
       try clear q2
       try clear hx2
       try clear qi2
       try clear c4
       try clear c5
       try clear c5b0
       try clear c5b1
       try clear c6
       try clear c6b0
       try clear c6b1
       try clear c7
       try clear hx276_0
       try clear p2
       try clear p276
       try clear q2
       try clear q276
       obtain ⟨x5_3, x6_3, rfl, rfl, HA, HK3, HO_3, HB⟩ := hrel
       cases gk with
       | zero => exact absurd HA.out (by simp [spec_InAll.l1])
       | succ k3 =>
        have H := HA.out
        clear HA
        simp only [spec_InAll.l1] at H
        by_cases c8 : x6_3 < (l0.length : Int)
        ·rw [if_pos c8] at H
         have c8b0 : decide (x6_3 < (l0.length : Int)) = true := decide_eq_true c8
         clear c8
         by_cases c9 : x5_3 = true
         ·subst c9
          have H1 : (if 0 ≤ x6_3 then (if 0 < (l0.length : Int) then (if 0 ≤ x4_1 then (if x4_1 < ((rd_L1 l0 0).length : Int) then ((spec_l4Has.f k3 (rd_L1 l0 x6_3) (rd (rd_L1 l0 0) x4_1)).bind fun t280 => (spec_InAll.l1 k3 l0 x3_1 x4_1 t280 (wrap64 (x6_3 + 1)))) else (none)) else (none)) else (none)) else (none)) = some r := by rw [if_pos rfl] at H; exact H
          clear H
          have H := H1
          clear H1
          by_cases c10 : 0 ≤ x6_3
          ·rw [if_pos c10] at H
           have c10b0 : decide (0 ≤ x6_3) = true := decide_eq_true c10
           clear c10
           by_cases c11 : 0 < (l0.length : Int)
           ·rw [if_pos c11] at H
            have c11b0 : decide (0 < (l0.length : Int)) = true := decide_eq_true c11
            have c11b1 : decide (0 < l0.length) = true := decide_eq_true (by omega)
            clear c11
            by_cases c12 : 0 ≤ x4_1
            ·rw [if_pos c12] at H
             have c12b0 : decide (0 ≤ x4_1) = true := decide_eq_true c12
             clear c12
             by_cases c13 : x4_1 < ((rd_L1 l0 0).length : Int)
             ·rw [if_pos c13] at H
              have c13b0 : decide (x4_1 < ((rd_L1 l0 0).length : Int)) = true := decide_eq_true c13
              clear c13
              replace H := Option.bind_eq_some_iff.mp H
              obtain ⟨t280, A140, H⟩ := H
              replace H : (spec_InAll.l1 k3 l0 x3_1 x4_1 t280 (wrap64 (x6_3 + 1))) = some r := H
              have A14 := Aside0.mk A140
              clear A140
              have H' := Aside0.mk H
              clear H
              have p277 : 0 ≤ (x6_3 : Int) := of_decide_eq_true as_
              have q277 : x6_3 < (l0.length : Int) := of_decide_eq_true as_
              obtain ⟨ad277, A277_0, c277_0, e277, hx277_0, hl277_0, hi277_0⟩ := at_L1 HR0.out x6_3 p277 q277
              cases e277
              replace hx277_0 := (HB.out.cell (World.block_lt_of_cell? w _ hx277_0)).trans hx277_0
              have HR277_0 := Aside0.mk hi277_0
              have HC277_0 := Aside0.mk hl277_0
              clear hi277_0 hl277_0
              replace p277 := eq_true p277
              replace q277 := eq_true q277
              have p278 : 0 ≤ (0 : Int) := (by omega)
              have q278 : 0 < (l0.length : Int) := of_decide_eq_true as_
              obtain ⟨ad278, A278_0, c278_0, e278, hx278_0, hl278_0, hi278_0⟩ := at_L1 HR0.out 0 p278 q278
              obtain rfl : ad277 = ad278 := (by injection e278)
              have qi278 : (0 < l0.length) = True := eq_true (by omega)
              (try rw [show ((0 : Int)).toNat = 0 from rfl] at hx278_0)
              (try rw [Addr.add_zero'] at hx278_0)
              replace hx278_0 := (HB.out.cell (World.block_lt_of_cell? w _ hx278_0)).trans hx278_0
              have HR278_0 := Aside0.mk hi278_0
              have HC278_0 := Aside0.mk hl278_0
              clear hi278_0 hl278_0
              replace p278 := eq_true p278
              replace q278 := eq_true q278
              have p279 : 0 ≤ (x4_1 : Int) := of_decide_eq_true as_
              have q279 : x4_1 < ((rd_L1 l0 0).length : Int) := of_decide_eq_true as_
              obtain ⟨ad279, e279, hx279_0⟩ := Zo HR278_0.out x4_1 p279 q279
              cases e279
              replace hx279_0 := (HB.out.cell (World.block_lt_of_cell? w _ hx279_0)).trans hx279_0
              replace p279 := eq_true p279
              replace q279 := eq_true q279
              go_wp2_with (first | (go_at_call 46; (with_reducible refine (spec_l4Has.calls k3 _ _ (rd_L1 l0 x6_3) (rd (rd_L1 l0 0) x4_1) t280 _ ?side1 ?side2 A14.out).mono ?_); (case side1 => exact cb_ HR277_0.out); (case side2 => exact HC277_0.out); rintro e w' ⟨rfl, ⟨nd, rfl⟩⟩; (try first | exact ⟨rfl, _, World.drewN_drewN _ _ _⟩ | exact ⟨rfl, _, Eq.trans (World.drewN_drewN _ _ _) (congrArg (World.drewN _) (Nat.add_assoc _ _ _))⟩)))
              repeat (go_quiet (first | (go_at_call 46; (with_reducible refine (spec_l4Has.calls k3 _ _ (rd_L1 l0 x6_3) (rd (rd_L1 l0 0) x4_1) t280 _ ?side1 ?side2 A14.out).mono ?_); (case side1 => exact cb_ HR277_0.out); (case side2 => exact HC277_0.out); rintro e w' ⟨rfl, ⟨nd, rfl⟩⟩; (try first | exact ⟨rfl, _, World.drewN_drewN _ _ _⟩ | exact ⟨rfl, _, Eq.trans (World.drewN_drewN _ _ _) (congrArg (World.drewN _) (Nat.add_assoc _ _ _))⟩))); try go_wp2_with (first | (go_at_call 46; (with_reducible refine (spec_l4Has.calls k3 _ _ (rd_L1 l0 x6_3) (rd (rd_L1 l0 0) x4_1) t280 _ ?side1 ?side2 A14.out).mono ?_); (case side1 => exact cb_ HR277_0.out); (case side2 => exact HC277_0.out); rintro e w' ⟨rfl, ⟨nd, rfl⟩⟩; (try first | exact ⟨rfl, _, World.drewN_drewN _ _ _⟩ | exact ⟨rfl, _, Eq.trans (World.drewN_drewN _ _ _) (congrArg (World.drewN _) (Nat.add_assoc _ _ _))⟩))))
              go_roundg k3
              case measure => have := HK1.out; have := HJ3.out; have := HK3.out; omega
              case rel => exact ⟨(t280), (wrap64 (x6_3 + 1)), sm_, sm_, H', ⟨by have := HK1.out; have := HJ3.out; have := HK3.out; omega⟩, ⟨rR_ HO_3.out⟩, ⟨hb_⟩⟩
             ·rw [if_neg c13] at H
              exact absurd H (by simp)
            ·rw [if_neg c12] at H
             exact absurd H (by simp)
           ·rw [if_neg c11] at H
            exact absurd H (by simp)
          ·rw [if_neg c10] at H
           exact absurd H (by simp)
         ·replace c9 := Bool.eq_false_iff.mpr c9
          subst c9
          have H1 : (spec_InAll.l1 k3 l0 x3_1 x4_1 false (wrap64 (x6_3 + 1))) = some r := by rw [if_neg (show ¬ (false = true) by decide)] at H; exact H
          clear H
          have H := H1
          clear H1
          have H' := Aside0.mk H
          clear H
          go_wp2
          repeat (go_quiet (fail); try go_wp2)
          go_roundg k3
          case measure => have := HK1.out; have := HJ3.out; have := HK3.out; omega
          case rel => exact ⟨(false), (wrap64 (x6_3 + 1)), sm_, sm_, H', ⟨by have := HK1.out; have := HJ3.out; have := HK3.out; omega⟩, ⟨rR_ HO_3.out⟩, ⟨hb_⟩⟩
        ·rw [if_neg c8] at H
         have c8b0 : decide (x6_3 < (l0.length : Int)) = false := decide_eq_false c8
         clear c8
         by_cases c15 : x5_3 = true
         ·subst c15
          have H1 : (if 0 < (l0.length : Int) then (if 0 ≤ x4_1 then (if x4_1 < ((rd_L1 l0 0).length : Int) then (if x3_1.length < 17592186044416 then (spec_InAll.l0 k3 l0 (x3_1 ++ [rd (rd_L1 l0 0) x4_1]) (wrap64 (x4_1 + 1))) else (none)) else (none)) else (none)) else (none)) = some r := by rw [if_pos rfl] at H; exact H
          clear H
          have H := H1
          clear H1
          by_cases c16 : 0 < (l0.length : Int)
          ·rw [if_pos c16] at H
           have c16b0 : decide (0 < (l0.length : Int)) = true := decide_eq_true c16
           have c16b1 : decide (0 < l0.length) = true := decide_eq_true (by omega)
           clear c16
           by_cases c17 : 0 ≤ x4_1
           ·rw [if_pos c17] at H
            have c17b0 : decide (0 ≤ x4_1) = true := decide_eq_true c17
            clear c17
            by_cases c18 : x4_1 < ((rd_L1 l0 0).length : Int)
            ·rw [if_pos c18] at H
             have c18b0 : decide (x4_1 < ((rd_L1 l0 0).length : Int)) = true := decide_eq_true c18
             clear c18
             by_cases c19 : x3_1.length < 17592186044416
             ·rw [if_pos c19] at H
              have LMc19 := Aside0.mk c19
              clear c19
              obtain ⟨y283, hy283⟩ : ∃ y_ : List Int, y_ = (x3_1 ++ [rd (rd_L1 l0 0) x4_1]) := ⟨_, rfl⟩
              replace H : (spec_InAll.l0 k3 l0 y283 (wrap64 (x4_1 + 1))) = some r := hy_ hy283 H
              have Ny283 := Aside0.mk hy283
              clear hy283
              have H' := Aside0.mk H
              clear H
              have p281 : 0 ≤ (0 : Int) := (by omega)
              have q281 : 0 < (l0.length : Int) := of_decide_eq_true as_
              obtain ⟨ad281, A281_0, c281_0, e281, hx281_0, hl281_0, hi281_0⟩ := at_L1 HR0.out 0 p281 q281
              cases e281
              have qi281 : (0 < l0.length) = True := eq_true (by omega)
              (try rw [show ((0 : Int)).toNat = 0 from rfl] at hx281_0)
              (try rw [Addr.add_zero'] at hx281_0)
              replace hx281_0 := (HB.out.cell (World.block_lt_of_cell? w _ hx281_0)).trans hx281_0
              have HR281_0 := Aside0.mk hi281_0
              have HC281_0 := Aside0.mk hl281_0
              clear hi281_0 hl281_0
              replace p281 := eq_true p281
              replace q281 := eq_true q281
              have p282 : 0 ≤ (x4_1 : Int) := of_decide_eq_true as_
              have q282 : x4_1 < ((rd_L1 l0 0).length : Int) := of_decide_eq_true as_
              obtain ⟨ad282, e282, hx282_0⟩ := Zo HR281_0.out x4_1 p282 q282
              cases e282
              replace hx282_0 := (HB.out.cell (World.block_lt_of_cell? w _ hx282_0)).trans hx282_0
              replace p282 := eq_true p282
              replace q282 := eq_true q282
              go_wp2_with (first | ((with_reducible refine gate_builtin (b := .append) (xs := #[.tmp 42, .tmp 49]) rfl ?_); (try (refine gate_guard (by rfl) ?_; dsimp only)); at_builtin; refine Kd.R_append (Kd.int .i64) (w0 := w) w.heap.size rfl (.tmp 42) (.tmp 49) 38 3 (.int .i64 0) 8 rfl Try.underlying38 info3 rfl (by decide) (by omega) u3 x3_1 (rd (rd_L1 l0 0) x4_1) [.int .i64 (rd (rd_L1 l0 0) x4_1)] (fun _ => True) (fun _ => False) rfl rfl ?aP (fun _ hk => hk.elim) ?aF ?aO ?aB ?aS ?aL ?_; (case aP => exact rfl); (case aB => exact hb_); (case aF => exact (fun _ _ => trivial)); (case aO => exact (rR_ HO_3.out)); (case aS => exact (Zi hb_)); (case aL => have := LMc19.out; omega); intro v284 w20 ho hb hg hat; rw [← Ny283.out] at ho; have n0_ := Aside0.mk (hb); have n1_ := Aside0.mk (ho); clear HB; clear HO_3; have HB := n0_; have HO285 := n1_; clear n0_ n1_; clear ho hb hg hat))
              repeat (go_quiet (first | ((with_reducible refine gate_builtin (b := .append) (xs := #[.tmp 42, .tmp 49]) rfl ?_); (try (refine gate_guard (by rfl) ?_; dsimp only)); at_builtin; refine Kd.R_append (Kd.int .i64) (w0 := w) w.heap.size rfl (.tmp 42) (.tmp 49) 38 3 (.int .i64 0) 8 rfl Try.underlying38 info3 rfl (by decide) (by omega) u3 x3_1 (rd (rd_L1 l0 0) x4_1) [.int .i64 (rd (rd_L1 l0 0) x4_1)] (fun _ => True) (fun _ => False) rfl rfl ?aP (fun _ hk => hk.elim) ?aF ?aO ?aB ?aS ?aL ?_; (case aP => exact rfl); (case aB => exact hb_); (case aF => exact (fun _ _ => trivial)); (case aO => exact (rR_ HO_3.out)); (case aS => exact (Zi hb_)); (case aL => have := LMc19.out; omega); intro v284 w20 ho hb hg hat; rw [← Ny283.out] at ho; have n0_ := Aside0.mk (hb); have n1_ := Aside0.mk (ho); clear HB; clear HO_3; have HB := n0_; have HO285 := n1_; clear n0_ n1_; clear ho hb hg hat)); try go_wp2_with (first | ((with_reducible refine gate_builtin (b := .append) (xs := #[.tmp 42, .tmp 49]) rfl ?_); (try (refine gate_guard (by rfl) ?_; dsimp only)); at_builtin; refine Kd.R_append (Kd.int .i64) (w0 := w) w.heap.size rfl (.tmp 42) (.tmp 49) 38 3 (.int .i64 0) 8 rfl Try.underlying38 info3 rfl (by decide) (by omega) u3 x3_1 (rd (rd_L1 l0 0) x4_1) [.int .i64 (rd (rd_L1 l0 0) x4_1)] (fun _ => True) (fun _ => False) rfl rfl ?aP (fun _ hk => hk.elim) ?aF ?aO ?aB ?aS ?aL ?_; (case aP => exact rfl); (case aB => exact hb_); (case aF => exact (fun _ _ => trivial)); (case aO => exact (rR_ HO_3.out)); (case aS => exact (Zi hb_)); (case aL => have := LMc19.out; omega); intro v284 w20 ho hb hg hat; rw [← Ny283.out] at ho; have n0_ := Aside0.mk (hb); have n1_ := Aside0.mk (ho); clear HB; clear HO_3; have HB := n0_; have HO285 := n1_; clear n0_ n1_; clear ho hb hg hat)))
              go_roundg k3
              case measure => have := HK1.out; have := HJ3.out; have := HK3.out; omega
              case rel => exact ⟨(y283), (wrap64 (x4_1 + 1)), sm_, H', ⟨by have := HK1.out; have := HJ3.out; have := HK3.out; omega⟩, ⟨rR_ HO285.out⟩, ⟨hb_⟩⟩
             ·rw [if_neg c19] at H
              exact absurd H (by simp)
            ·rw [if_neg c18] at H
             exact absurd H (by simp)
           ·rw [if_neg c17] at H
            exact absurd H (by simp)
          ·rw [if_neg c16] at H
           exact absurd H (by simp)
         ·replace c15 := Bool.eq_false_iff.mpr c15
          subst c15
          have H1 : (spec_InAll.l0 k3 l0 x3_1 (wrap64 (x4_1 + 1))) = some r := by rw [if_neg (show ¬ (false = true) by decide)] at H; exact H
          clear H
          have H := H1
          clear H1
          have H' := Aside0.mk H
          clear H
          go_wp2
          repeat (go_quiet (fail); try go_wp2)
          go_roundg k3
          case measure => have := HK1.out; have := HJ3.out; have := HK3.out; omega
          case rel => exact ⟨(x3_1), (wrap64 (x4_1 + 1)), sm_, H', ⟨by have := HK1.out; have := HJ3.out; have := HK3.out; omega⟩, ⟨rR_ HO_3.out⟩, ⟨hb_⟩⟩
     ·replace c7 := Bool.eq_false_iff.mpr c7
      subst c7
      have H1 : (some x3_1) = some r := by rw [if_neg (show ¬ (false = true) by decide)] at H; exact H
      clear H
      have H := H1
      clear H1
      obtain rfl := Option.some.inj H
      go_wp2
      repeat (go_quiet (fail); try go_wp2)
      go_ret
      exact ⟨_, er_, rR_ HO_3.out, hb_⟩

end Go.Proofs.Ytkmhkkhlbnhaaaa.PFnExactIsCertain
