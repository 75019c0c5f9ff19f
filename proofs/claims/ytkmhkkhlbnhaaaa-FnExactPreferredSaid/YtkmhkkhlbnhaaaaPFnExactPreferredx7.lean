-- Written by a program of this session (hooks of mine on the print): Lean checks it.
import Derived.Test.YtkmhkkhlbnhaaaaPFnExactPreferredx0
import Derived.Test.YtkmhkkhlbnhaaaaPFnExactPreferredx2
import Derived.Test.YtkmhkkhlbnhaaaaPFnExactPreferredx6
namespace Go.Proofs.Ytkmhkkhlbnhaaaa.PFnExactPreferred
open Go.RowKit Go.Proofs.YtkmhkkhlbnhaaaaW.PrintWords Go.Proofs.YtkmhkkhlbnhaaaaW.PrintLast Go.Proofs.YtkmhkkhlbnhaaaaW.PrintMore
attribute [local go_sem] max2_int min2_int max_two min_two max_three min_three max_four min_four   -- for this text's walks alone
set_option linter.unusedVariables false
set_option linter.unusedSimpArgs false

/-! ### spec_l7Part: function 52 -/
def spec_l7Part.l0 : Nat → List Int → List Int → Int → Option (Bool)
 | 0, _, _, _ => none
 | k + 1, x0, x1, x5 => if x5 < (x0.length : Int) then (if 0 ≤ x5 then ((spec_l4Has.f k x1 (rd x0 x5)).bind fun t285 => (if t285 = true then (spec_l7Part.l0 k x0 x1 (wrap64 (x5 + 1))) else (some false))) else (none)) else (some true)
def spec_l7Part.f (k : Nat) (l0 : List Int) (l1 : List Int) : Option (Bool) := spec_l7Part.l0 k l0 l1 0
theorem spec_l7Part.mono_l : ∀ k, (∀ y0 y1 y2, LeO (spec_l7Part.l0 k y0 y1 y2) (spec_l7Part.l0 (k + 1) y0 y1 y2))
 | 0 => fun _ _ _ r h => by simp [spec_l7Part.l0] at h
 | k + 1 => by
  have ih0 := spec_l7Part.mono_l k
  ·intro y0 y1 y2
   unfold spec_l7Part.l0
   repeat' first
   | (with_reducible exact ih0 _ _ _)
   | (with_reducible exact spec_l4Has.mono _ _ _)
   | (with_reducible exact Zv _)
   | (with_reducible exact Zh _)
   | (with_reducible refine Zn ?_ ?_)
   | (with_reducible refine Zi ?_ (fun _ => ?_))
   | exact ih0 _ _ _
   | exact spec_l4Has.mono _ _ _
   | exact Zh _
   | refine Zn ?_ ?_
   | refine Zi ?_ (fun _ => ?_)
theorem spec_l7Part.mono : ∀ a0 a1 k, LeO (spec_l7Part.f k a0 a1) (spec_l7Part.f (k + 1) a0 a1) := by
 intro a0 a1 k
 have ih0 := spec_l7Part.mono_l k
 unfold spec_l7Part.f
 repeat' first
   | (with_reducible exact ih0 _ _ _)
   | (with_reducible exact spec_l4Has.mono _ _ _)
   | (with_reducible exact Zv _)
   | (with_reducible exact Zh _)
   | (with_reducible refine Zn ?_ ?_)
   | (with_reducible refine Zi ?_ (fun _ => ?_))
   | exact ih0 _ _ _
   | exact spec_l4Has.mono _ _ _
   | exact Zh _
   | refine Zn ?_ ?_
   | refine Zi ?_ (fun _ => ?_)
set_option maxHeartbeats 8000000 in
set_option maxRecDepth 100000 in
theorem spec_l7Part.calls (k : Nat) (A0 : Option Addr) (c0 : Nat) (l0 : List Int) (A1 : Option Addr) (c1 : Nat) (l1 : List Int) (r : Bool) (w : World) (hr0 : Kd.C (Kd.int .i64) w A0 l0.length l0) (hc0 : l0.length ≤ c0) (hr1 : Kd.C (Kd.int .i64) w A1 l1.length l1) (hc1 : l1.length ≤ c1) (h : spec_l7Part.f k l0 l1 = some r) :
  Calls Try.prog 52 #[.slice A0 l0.length c0, .slice A1 l1.length c1] w fun e w' => e = .returned (.bool r) ∧ Drawn0 w w' := by
 have HR0 := Aside0.mk hr0
 have HC0 := Aside0.mk hc0
 clear hr0 hc0
 have HR1 := Aside0.mk hr1
 have HC1 := Aside0.mk hc1
 clear hr1 hc1
 have H : (spec_l7Part.l0 k l0 l1 0) = some r := h
 clear h
 have H' := Aside0.mk H
 clear H
 go_enter Try.func52, Try.ntmps52
 go_wp2
 go_loopg [5] k (fun kq v5 w' => ∃ (x5_1 : Int), v5 = .int .i64 x5_1 ∧ Aside0 (spec_l7Part.l0 kq l0 l1 x5_1 = some r) ∧ Aside0 (kq ≤ k) ∧ Drawn0 w w')
 case atStart => exact ⟨(0), sm_, H', ⟨Nat.le_refl _⟩, dr_⟩
 case round =>
  clear H'
  try clear c1
  try clear p2
  obtain ⟨x5_1, rfl, HA, HK1, ⟨m1, rfl⟩⟩ := hrel
  cases gk with
  | zero => exact absurd HA.out (by simp [spec_l7Part.l0])
  | succ k1 =>
   have H := HA.out
   clear HA
   simp only [spec_l7Part.l0] at H
   by_cases c3 : x5_1 < (l0.length : Int)
   ·rw [if_pos c3] at H
    have c3b0 : decide (x5_1 < (l0.length : Int)) = true := decide_eq_true c3
    clear c3
    by_cases c4 : 0 ≤ x5_1
    ·rw [if_pos c4] at H
     have c4b0 : decide (0 ≤ x5_1) = true := decide_eq_true c4
     clear c4
     replace H := Option.bind_eq_some_iff.mp H
     obtain ⟨t285, A50, H⟩ := H
     replace H : (if t285 = true then (spec_l7Part.l0 k1 l0 l1 (wrap64 (x5_1 + 1))) else (some false)) = some r := H
     have A5 := Aside0.mk A50
     clear A50
     by_cases c6 : t285 = true
     ·subst c6
      have H1 : (spec_l7Part.l0 k1 l0 l1 (wrap64 (x5_1 + 1))) = some r := by rw [if_pos rfl] at H; exact H
      clear H
      have H := H1
      clear H1
      have H' := Aside0.mk H
      clear H
      have p284 : 0 ≤ (x5_1 : Int) := of_decide_eq_true as_
      have q284 : x5_1 < (l0.length : Int) := of_decide_eq_true as_
      obtain ⟨ad284, e284, hx284_0⟩ := Zo HR0.out x5_1 p284 q284
      cases e284
      replace p284 := eq_true p284
      replace q284 := eq_true q284
      go_wp2_with (first | ((with_reducible refine Zg (f := 46) rfl ?_); refine Zw (some 17) rfl rfl Try.func46 (by kernel_rfl) rfl #[.slice A1 l1.length c1, .int .i64 (rd l0 x5_1)] rfl ar_ ?_; (with_reducible refine (spec_l4Has.calls k1 _ _ l1 (rd l0 x5_1) true _ ?side1 ?side2 A5.out).mono ?_); (case side1 => repeat (first | exact HR1.out | (with_reducible refine Zs ?_ _) | (with_reducible refine Zr ?_ _) | (with_reducible refine Zt ?_))); (case side2 => exact HC1.out); rintro e w' ⟨rfl, ⟨nd, rfl⟩⟩; refine ⟨_, rfl, ?_⟩))
      go_roundg k1
      case measure => have := HK1.out; omega
      case rel => exact ⟨(wrap64 (x5_1 + 1)), sm_, H', ⟨by have := HK1.out; omega⟩, dr_⟩
     ·replace c6 := Bool.eq_false_iff.mpr c6
      subst c6
      have H1 : (some false) = some r := by rw [if_neg (show ¬ (false = true) by decide)] at H; exact H
      clear H
      have H := H1
      clear H1
      obtain rfl := Option.some.inj H
      have p284 : 0 ≤ (x5_1 : Int) := of_decide_eq_true as_
      have q284 : x5_1 < (l0.length : Int) := of_decide_eq_true as_
      obtain ⟨ad284, e284, hx284_0⟩ := Zo HR0.out x5_1 p284 q284
      cases e284
      replace p284 := eq_true p284
      replace q284 := eq_true q284
      go_wp2_with (first | ((with_reducible refine Zg (f := 46) rfl ?_); refine Zw (some 17) rfl rfl Try.func46 (by kernel_rfl) rfl #[.slice A1 l1.length c1, .int .i64 (rd l0 x5_1)] rfl ar_ ?_; (with_reducible refine (spec_l4Has.calls k1 _ _ l1 (rd l0 x5_1) false _ ?side1 ?side2 A5.out).mono ?_); (case side1 => repeat (first | exact HR1.out | (with_reducible refine Zs ?_ _) | (with_reducible refine Zr ?_ _) | (with_reducible refine Zt ?_))); (case side2 => exact HC1.out); rintro e w' ⟨rfl, ⟨nd, rfl⟩⟩; refine ⟨_, rfl, ?_⟩))
      go_ret
      exact ⟨sm_, dr_⟩
    ·rw [if_neg c4] at H
     exact absurd H (by simp)
   ·rw [if_neg c3] at H
    have c3b0 : decide (x5_1 < (l0.length : Int)) = false := decide_eq_false c3
    clear c3
    obtain rfl := Option.some.inj H
    go_wp2
    go_ret
    exact ⟨sm_, dr_⟩

/-! ### spec_Preferred: function 18 -/
mutual
def spec_Preferred.l0 : Nat → List (List Int) → List (List Int) → Int → Option ((List (List Int)))
 | 0, _, _, _ => none
 | k + 1, x3, x4, x5 => if x5 < (x4.length : Int) then (spec_Preferred.l1 k x3 x4 x5 true 0) else (some x3)
def spec_Preferred.l1 : Nat → List (List Int) → List (List Int) → Int → Bool → Int → Option ((List (List Int)))
 | 0, _, _, _, _, _ => none
 | k + 1, x3, x4, x5, x6, x7 => if x7 < (x4.length : Int) then (if x6 = true then (if x7 = x5 then (spec_Preferred.l1 k x3 x4 x5 true (wrap64 (x7 + 1))) else (if 0 ≤ x5 then (if x5 < (x4.length : Int) then (if 0 ≤ x7 then ((spec_l7Part.f k (rd_L1 x4 x5) (rd_L1 x4 x7)).bind fun t295 => (spec_Preferred.l1 k x3 x4 x5 (!t295) (wrap64 (x7 + 1)))) else (none)) else (none)) else (none))) else (spec_Preferred.l1 k x3 x4 x5 false (wrap64 (x7 + 1)))) else (if x6 = true then (if 0 ≤ x5 then (if x5 < (x4.length : Int) then (if x3.length < 5864062014805 then (spec_Preferred.l0 k (x3 ++ [rd_L1 x4 x5]) x4 (wrap64 (x5 + 1))) else (none)) else (none)) else (none)) else (spec_Preferred.l0 k x3 x4 (wrap64 (x5 + 1))))
end
def spec_Preferred.f (k : Nat) (a0_0 : Int) (l0_1 : List (List Int)) : Option ((List (List Int))) := (spec_AllComplete.f k a0_0 l0_1).bind fun t290 => (spec_Preferred.l0 k (([] : List (List Int))) t290 0)
theorem spec_Preferred.mono_l : ∀ k, (∀ y0 y1 y2, LeO (spec_Preferred.l0 k y0 y1 y2) (spec_Preferred.l0 (k + 1) y0 y1 y2)) ∧ (∀ y0 y1 y2 y3 y4, LeO (spec_Preferred.l1 k y0 y1 y2 y3 y4) (spec_Preferred.l1 (k + 1) y0 y1 y2 y3 y4))
 | 0 => ⟨fun _ _ _ r h => by simp [spec_Preferred.l0] at h, fun _ _ _ _ _ r h => by simp [spec_Preferred.l1] at h⟩
 | k + 1 => by
  obtain ⟨ih0, ih1⟩ := spec_Preferred.mono_l k
  refine ⟨?_, ?_⟩
  ·intro y0 y1 y2
   unfold spec_Preferred.l0
   repeat' first
   | (with_reducible exact ih0 _ _ _)
   | (with_reducible exact ih1 _ _ _ _ _)
   | (with_reducible exact spec_AllComplete.mono _ _ _)
   | (with_reducible exact spec_l7Part.mono _ _ _)
   | (with_reducible exact Zv _)
   | (with_reducible exact Zh _)
   | (with_reducible refine Zn ?_ ?_)
   | (with_reducible refine Zi ?_ (fun _ => ?_))
   | exact ih0 _ _ _
   | exact ih1 _ _ _ _ _
   | exact spec_AllComplete.mono _ _ _
   | exact spec_l7Part.mono _ _ _
   | exact Zh _
   | refine Zn ?_ ?_
   | refine Zi ?_ (fun _ => ?_)
  ·intro y0 y1 y2 y3 y4
   unfold spec_Preferred.l1
   repeat' first
   | (with_reducible exact ih0 _ _ _)
   | (with_reducible exact ih1 _ _ _ _ _)
   | (with_reducible exact spec_AllComplete.mono _ _ _)
   | (with_reducible exact spec_l7Part.mono _ _ _)
   | (with_reducible exact Zv _)
   | (with_reducible exact Zh _)
   | (with_reducible refine Zn ?_ ?_)
   | (with_reducible refine Zi ?_ (fun _ => ?_))
   | exact ih0 _ _ _
   | exact ih1 _ _ _ _ _
   | exact spec_AllComplete.mono _ _ _
   | exact spec_l7Part.mono _ _ _
   | exact Zh _
   | refine Zn ?_ ?_
   | refine Zi ?_ (fun _ => ?_)
theorem spec_Preferred.mono : ∀ a0 a1 k, LeO (spec_Preferred.f k a0 a1) (spec_Preferred.f (k + 1) a0 a1) := by
 intro a0 a1 k
 obtain ⟨ih0, ih1⟩ := spec_Preferred.mono_l k
 unfold spec_Preferred.f
 repeat' first
   | (with_reducible exact ih0 _ _ _)
   | (with_reducible exact ih1 _ _ _ _ _)
   | (with_reducible exact spec_AllComplete.mono _ _ _)
   | (with_reducible exact spec_l7Part.mono _ _ _)
   | (with_reducible exact Zv _)
   | (with_reducible exact Zh _)
   | (with_reducible refine Zn ?_ ?_)
   | (with_reducible refine Zi ?_ (fun _ => ?_))
   | exact ih0 _ _ _
   | exact ih1 _ _ _ _ _
   | exact spec_AllComplete.mono _ _ _
   | exact spec_l7Part.mono _ _ _
   | exact Zh _
   | refine Zn ?_ ?_
   | refine Zi ?_ (fun _ => ?_)
set_option maxHeartbeats 8000000 in
set_option maxRecDepth 100000 in
theorem spec_Preferred.calls (k : Nat) (a0_0 : Int) (A0_1 : Option Addr) (c0_1 : Nat) (l0_1 : List (List Int)) (r : List (List Int)) (w : World) (hr0_1 : Kd.C (Kd.slice 3 (Kd.int .i64)) w A0_1 l0_1.length l0_1) (hc0_1 : l0_1.length ≤ c0_1) (h : spec_Preferred.f k a0_0 l0_1 = some r) :
  Calls Try.prog 18 #[.agg #[.int .i64 a0_0, .slice A0_1 l0_1.length c0_1]] w fun e w' => ∃ v0_ : Value, e = .returned (v0_) ∧ Kd.N (Kd.slice 3 (Kd.int .i64)) 38 w' w.heap.size (fun k_ => (w.heap.size ≤ k_)) v0_ r ∧ Below w.heap.size w w' := by
 have hu27 := Try.underlying27
 have HR0_1 := Aside0.mk hr0_1
 have HC0_1 := Aside0.mk hc0_1
 clear hr0_1 hc0_1
 have HB := Aside0.mk (Below.refl w.heap.size w)
 have H : ((spec_AllComplete.f k a0_0 l0_1).bind fun t290 => (spec_Preferred.l0 k (([] : List (List Int))) t290 0)) = some r := h
 clear h
 obtain ⟨y287, hy287⟩ : ∃ y_ : List (List Int), y_ = (([] : List (List Int))) := ⟨_, rfl⟩
 replace H : ((spec_AllComplete.f k a0_0 l0_1).bind fun t290 => (spec_Preferred.l0 k y287 t290 0)) = some r := hy_ hy287 H
 have Ny287 := Aside0.mk hy287
 clear hy287
 replace H := Option.bind_eq_some_iff.mp H
 obtain ⟨t290, A20, H⟩ := H
 replace H : (spec_Preferred.l0 k y287 t290 0) = some r := H
 have A2 := Aside0.mk A20
 clear A20
 have H' := Aside0.mk H
 clear H
 go_enter Try.func18, Try.ntmps18
 go_wp2_with (first | ((with_reducible refine Zy (N := 1) rfl ?_); refine Zz ?hg (N := 1) ?hd (cs := #[.int .i64 a0_0, .slice A0_1 l0_1.length c0_1]) (t := 27) ?hr ?_; (case hd => rfl); (case hg => rfl); (case hr => first | (go_simp; done) | (go_simp; rfl)); intro gb286 hg w3 hbox hb; have n0_ := Aside0.mk (Zf hb_ hb); have n1_ := Aside0.mk (hbox); have n2_ := Aside0.mk ((hz_ hg : w.heap.size ≤ gb286)); have n3_ := Aside0.mk ((hz_ hg : w.heap.size ≤ gb286)); clear HB; have HB := n0_; have BK286 := n1_; have GW286 := n2_; have GE286 := n3_; clear n0_ n1_ n2_ n3_; clear hb hbox hg) | ((with_reducible refine Zy (N := 8) rfl ?_); refine Kd.N_lit (Kd.slice 3 (Kd.int .i64)) _ 38 ?hg (N' := 8) ?hd (xs := ([] : List (List Int))) (inner := []) (ok := (fun k_ => (w.heap.size ≤ k_) ∧ k_ ≠ gb286)) (okp := (fun k_ => (w.heap.size ≤ k_) ∧ k_ ≠ gb286)) ?hr ?hp (fun _ hk => hk) ((show ∀ k_, w3.heap.size ≤ k_ → (fun k_ => (w.heap.size ≤ k_) ∧ k_ ≠ gb286) k_ from fun k_ hk => ⟨(Nat.le_trans (Zk hb_) hk), Kd.freshB (g := gb286) (o := .cells #[.int .i64 a0_0, .slice A0_1 l0_1.length c0_1] 27 (0, 0)) (bk_ BK286.out) k_ hk⟩) _ (Nat.le_refl _)) (Below.refl _ _) (Nat.le_refl _) (by simp) ?_; (case hd => rfl); (case hg => rfl); (case hr => first | (go_simp; done) | (go_simp; rfl)); (case hp => exact (Reps.none _ _)); intro v288 w4 ho5 hb hg_ hnew_; clear hg_ hnew_; (first | rw [← Ny287.out] at ho5 | (simp only [Int.reduceToNat] at ho5; rw [← Ny287.out] at ho5)); have n0_ := Aside0.mk (Kd.N_lower ho5 (Zk hb_)); have n1_ := Aside0.mk (Zj (g := gb286) (o := .cells #[.int .i64 a0_0, .slice A0_1 l0_1.length c0_1] 27 (0, 0)) (bk_ BK286.out) hb); have n2_ := Aside0.mk (Zf hb_ hb); clear BK286; clear HB; have HO289 := n0_; have BK286 := n1_; have HB := n2_; clear n0_ n1_ n2_; clear hb ho5; have hcz6_0 : w4.cell? ⟨gb286, 0, none⟩ = some (.int .i64 a0_0) := (Ze BK286.out 0).trans rfl; have hcz6_1 : w4.cell? ⟨gb286, 1, none⟩ = some (.slice A0_1 l0_1.length c0_1) := (Ze BK286.out 1).trans rfl; have hfz6_0 := Zd BK286.out 0; have hfz6_1 := Zd BK286.out 1) | (go_at_call 51; (with_reducible refine (spec_AllComplete.calls k a0_0 _ _ l0_1 t290 _ ?side1 ?side2 A2.out).mono ?_); (case side1 => exact cb_ HR0_1.out); (case side2 => exact HC0_1.out); rintro e w7 ⟨v291, rfl, ho0, hb⟩; have n0_ := Aside0.mk (Kd.N_elder' (rN_ HO289.out) (Kd.N_base ho0) hb); have n1_ := Aside0.mk (Kd.N_lower (Zx (ok' := fun k_ => (w.heap.size ≤ k_) ∧ some k_ ≠ (v288 : Value).ownBlock ∧ k_ ≠ gb286) ho0 (fun k_ hk_ => ⟨(Nat.le_trans (Zk hb_) hk_), (Kd.fresh' (Kd.N_lt (rN_ HO289.out)) k_ hk_), (Kd.freshB (g := gb286) (o := .cells #[.int .i64 a0_0, .slice A0_1 l0_1.length c0_1] 27 (0, 0)) (bk_ BK286.out) k_ hk_)⟩)) (Zk hb_)); have n2_ := Aside0.mk (Zj (g := gb286) (o := .cells #[.int .i64 a0_0, .slice A0_1 l0_1.length c0_1] 27 (0, 0)) (bk_ BK286.out) hb); have n3_ := Aside0.mk (Zf hb_ hb); clear HO289; clear BK286; clear HB; have HO289 := n0_; have HO292 := n1_; have BK286 := n2_; have HB := n3_; clear n0_ n1_ n2_ n3_; (try clear hb); (try clear hb2); (try clear hk); (try clear hi); (try clear ho0)))
 repeat (go_quiet (first | ((with_reducible refine Zy (N := 1) rfl ?_); refine Zz ?hg (N := 1) ?hd (cs := #[.int .i64 a0_0, .slice A0_1 l0_1.length c0_1]) (t := 27) ?hr ?_; (case hd => rfl); (case hg => rfl); (case hr => first | (go_simp; done) | (go_simp; rfl)); intro gb286 hg w3 hbox hb; have n0_ := Aside0.mk (Zf hb_ hb); have n1_ := Aside0.mk (hbox); have n2_ := Aside0.mk ((hz_ hg : w.heap.size ≤ gb286)); have n3_ := Aside0.mk ((hz_ hg : w.heap.size ≤ gb286)); clear HB; have HB := n0_; have BK286 := n1_; have GW286 := n2_; have GE286 := n3_; clear n0_ n1_ n2_ n3_; clear hb hbox hg) | ((with_reducible refine Zy (N := 8) rfl ?_); refine Kd.N_lit (Kd.slice 3 (Kd.int .i64)) _ 38 ?hg (N' := 8) ?hd (xs := ([] : List (List Int))) (inner := []) (ok := (fun k_ => (w.heap.size ≤ k_) ∧ k_ ≠ gb286)) (okp := (fun k_ => (w.heap.size ≤ k_) ∧ k_ ≠ gb286)) ?hr ?hp (fun _ hk => hk) ((show ∀ k_, w3.heap.size ≤ k_ → (fun k_ => (w.heap.size ≤ k_) ∧ k_ ≠ gb286) k_ from fun k_ hk => ⟨(Nat.le_trans (Zk hb_) hk), Kd.freshB (g := gb286) (o := .cells #[.int .i64 a0_0, .slice A0_1 l0_1.length c0_1] 27 (0, 0)) (bk_ BK286.out) k_ hk⟩) _ (Nat.le_refl _)) (Below.refl _ _) (Nat.le_refl _) (by simp) ?_; (case hd => rfl); (case hg => rfl); (case hr => first | (go_simp; done) | (go_simp; rfl)); (case hp => exact (Reps.none _ _)); intro v288 w4 ho5 hb hg_ hnew_; clear hg_ hnew_; (first | rw [← Ny287.out] at ho5 | (simp only [Int.reduceToNat] at ho5; rw [← Ny287.out] at ho5)); have n0_ := Aside0.mk (Kd.N_lower ho5 (Zk hb_)); have n1_ := Aside0.mk (Zj (g := gb286) (o := .cells #[.int .i64 a0_0, .slice A0_1 l0_1.length c0_1] 27 (0, 0)) (bk_ BK286.out) hb); have n2_ := Aside0.mk (Zf hb_ hb); clear BK286; clear HB; have HO289 := n0_; have BK286 := n1_; have HB := n2_; clear n0_ n1_ n2_; clear hb ho5; have hcz6_0 : w4.cell? ⟨gb286, 0, none⟩ = some (.int .i64 a0_0) := (Ze BK286.out 0).trans rfl; have hcz6_1 : w4.cell? ⟨gb286, 1, none⟩ = some (.slice A0_1 l0_1.length c0_1) := (Ze BK286.out 1).trans rfl; have hfz6_0 := Zd BK286.out 0; have hfz6_1 := Zd BK286.out 1) | (go_at_call 51; (with_reducible refine (spec_AllComplete.calls k a0_0 _ _ l0_1 t290 _ ?side1 ?side2 A2.out).mono ?_); (case side1 => exact cb_ HR0_1.out); (case side2 => exact HC0_1.out); rintro e w7 ⟨v291, rfl, ho0, hb⟩; have n0_ := Aside0.mk (Kd.N_elder' (rN_ HO289.out) (Kd.N_base ho0) hb); have n1_ := Aside0.mk (Kd.N_lower (Zx (ok' := fun k_ => (w.heap.size ≤ k_) ∧ some k_ ≠ (v288 : Value).ownBlock ∧ k_ ≠ gb286) ho0 (fun k_ hk_ => ⟨(Nat.le_trans (Zk hb_) hk_), (Kd.fresh' (Kd.N_lt (rN_ HO289.out)) k_ hk_), (Kd.freshB (g := gb286) (o := .cells #[.int .i64 a0_0, .slice A0_1 l0_1.length c0_1] 27 (0, 0)) (bk_ BK286.out) k_ hk_)⟩)) (Zk hb_)); have n2_ := Aside0.mk (Zj (g := gb286) (o := .cells #[.int .i64 a0_0, .slice A0_1 l0_1.length c0_1] 27 (0, 0)) (bk_ BK286.out) hb); have n3_ := Aside0.mk (Zf hb_ hb); clear HO289; clear BK286; clear HB; have HO289 := n0_; have HO292 := n1_; have BK286 := n2_; have HB := n3_; clear n0_ n1_ n2_ n3_; (try clear hb); (try clear hb2); (try clear hk); (try clear hi); (try clear ho0))); try go_wp2_with (first | ((with_reducible refine Zy (N := 1) rfl ?_); refine Zz ?hg (N := 1) ?hd (cs := #[.int .i64 a0_0, .slice A0_1 l0_1.length c0_1]) (t := 27) ?hr ?_; (case hd => rfl); (case hg => rfl); (case hr => first | (go_simp; done) | (go_simp; rfl)); intro gb286 hg w3 hbox hb; have n0_ := Aside0.mk (Zf hb_ hb); have n1_ := Aside0.mk (hbox); have n2_ := Aside0.mk ((hz_ hg : w.heap.size ≤ gb286)); have n3_ := Aside0.mk ((hz_ hg : w.heap.size ≤ gb286)); clear HB; have HB := n0_; have BK286 := n1_; have GW286 := n2_; have GE286 := n3_; clear n0_ n1_ n2_ n3_; clear hb hbox hg) | ((with_reducible refine Zy (N := 8) rfl ?_); refine Kd.N_lit (Kd.slice 3 (Kd.int .i64)) _ 38 ?hg (N' := 8) ?hd (xs := ([] : List (List Int))) (inner := []) (ok := (fun k_ => (w.heap.size ≤ k_) ∧ k_ ≠ gb286)) (okp := (fun k_ => (w.heap.size ≤ k_) ∧ k_ ≠ gb286)) ?hr ?hp (fun _ hk => hk) ((show ∀ k_, w3.heap.size ≤ k_ → (fun k_ => (w.heap.size ≤ k_) ∧ k_ ≠ gb286) k_ from fun k_ hk => ⟨(Nat.le_trans (Zk hb_) hk), Kd.freshB (g := gb286) (o := .cells #[.int .i64 a0_0, .slice A0_1 l0_1.length c0_1] 27 (0, 0)) (bk_ BK286.out) k_ hk⟩) _ (Nat.le_refl _)) (Below.refl _ _) (Nat.le_refl _) (by simp) ?_; (case hd => rfl); (case hg => rfl); (case hr => first | (go_simp; done) | (go_simp; rfl)); (case hp => exact (Reps.none _ _)); intro v288 w4 ho5 hb hg_ hnew_; clear hg_ hnew_; (first | rw [← Ny287.out] at ho5 | (simp only [Int.reduceToNat] at ho5; rw [← Ny287.out] at ho5)); have n0_ := Aside0.mk (Kd.N_lower ho5 (Zk hb_)); have n1_ := Aside0.mk (Zj (g := gb286) (o := .cells #[.int .i64 a0_0, .slice A0_1 l0_1.length c0_1] 27 (0, 0)) (bk_ BK286.out) hb); have n2_ := Aside0.mk (Zf hb_ hb); clear BK286; clear HB; have HO289 := n0_; have BK286 := n1_; have HB := n2_; clear n0_ n1_ n2_; clear hb ho5; have hcz6_0 : w4.cell? ⟨gb286, 0, none⟩ = some (.int .i64 a0_0) := (Ze BK286.out 0).trans rfl; have hcz6_1 : w4.cell? ⟨gb286, 1, none⟩ = some (.slice A0_1 l0_1.length c0_1) := (Ze BK286.out 1).trans rfl; have hfz6_0 := Zd BK286.out 0; have hfz6_1 := Zd BK286.out 1) | (go_at_call 51; (with_reducible refine (spec_AllComplete.calls k a0_0 _ _ l0_1 t290 _ ?side1 ?side2 A2.out).mono ?_); (case side1 => exact cb_ HR0_1.out); (case side2 => exact HC0_1.out); rintro e w7 ⟨v291, rfl, ho0, hb⟩; have n0_ := Aside0.mk (Kd.N_elder' (rN_ HO289.out) (Kd.N_base ho0) hb); have n1_ := Aside0.mk (Kd.N_lower (Zx (ok' := fun k_ => (w.heap.size ≤ k_) ∧ some k_ ≠ (v288 : Value).ownBlock ∧ k_ ≠ gb286) ho0 (fun k_ hk_ => ⟨(Nat.le_trans (Zk hb_) hk_), (Kd.fresh' (Kd.N_lt (rN_ HO289.out)) k_ hk_), (Kd.freshB (g := gb286) (o := .cells #[.int .i64 a0_0, .slice A0_1 l0_1.length c0_1] 27 (0, 0)) (bk_ BK286.out) k_ hk_)⟩)) (Zk hb_)); have n2_ := Aside0.mk (Zj (g := gb286) (o := .cells #[.int .i64 a0_0, .slice A0_1 l0_1.length c0_1] 27 (0, 0)) (bk_ BK286.out) hb); have n3_ := Aside0.mk (Zf hb_ hb); clear HO289; clear BK286; clear HB; have HO289 := n0_; have HO292 := n1_; have BK286 := n2_; have HB := n3_; clear n0_ n1_ n2_ n3_; (try clear hb); (try clear hb2); (try clear hk); (try clear hi); (try clear ho0))))
 go_loopg [3, 5] k (fun kq v3 v5 w' => ∃ (x3_1 : List (List Int)) (x5_1 : Int), v5 = .int .i64 x5_1 ∧ Aside0 (spec_Preferred.l0 kq x3_1 t290 x5_1 = some r) ∧ Aside0 (kq ≤ k) ∧ Aside0 (Kd.N (Kd.slice 3 (Kd.int .i64)) 38 w' w.heap.size (fun k_ => (w.heap.size ≤ k_) ∧ some k_ ≠ (v291 : Value).ownBlock ∧ k_ ≠ gb286) v3 x3_1) ∧ Aside0 (Kd.N (Kd.slice 3 (Kd.int .i64)) 38 w' w.heap.size (fun k_ => (w.heap.size ≤ k_) ∧ some k_ ≠ (v3 : Value).ownBlock ∧ k_ ≠ gb286) v291 t290) ∧ Aside0 (w'.heap[gb286]? = some (.cells #[.int .i64 a0_0, (.slice A0_1 l0_1.length c0_1)] 27 (0, 0))) ∧ Aside0 (Below w.heap.size w w'))
 case atStart => exact ⟨(y287), (0), sm_, H', ⟨Nat.le_refl _⟩, ⟨by (with_reducible repeat (first | apply ZB | apply ZA | apply ZC)); exact Zx HO289.out (fun _ hk => ⟨hk.1.1, ⟨hk.2, hk.1.2⟩⟩)⟩, ⟨rN_ HO292.out⟩, ⟨bk_ BK286.out⟩, ⟨hb_⟩⟩
 case round =>
  clear H'
  try clear c1
  try clear p2
  try clear hcz6_0
  try clear hcz6_1
  try clear hfz6_0
  try clear hfz6_1
  obtain ⟨x3_1, x5_1, rfl, HA, HK1, HO_3, HO_4, BK286, HB⟩ := hrel
  cases gk with
  | zero => exact absurd HA.out (by simp [spec_Preferred.l0])
  | succ k1 =>
   have H := HA.out
   clear HA
   simp only [spec_Preferred.l0] at H
   by_cases c8 : x5_1 < (t290.length : Int)
   ·rw [if_pos c8] at H
    have c8b0 : decide (x5_1 < (t290.length : Int)) = true := decide_eq_true c8
    clear c8
    have H' := Aside0.mk H
    clear H
    obtain ⟨Ao9, co9, eo9⟩ := Kd.N_slice HO_4.out
    subst eo9
    go_wp2
    repeat (go_quiet (fail); try go_wp2)
    go_loopg [6, 7] k1 (fun kq v6 v7 w' => ∃ (x6_2 : Bool) (x7_2 : Int), v6 = .bool x6_2 ∧ v7 = .int .i64 x7_2 ∧ Aside0 (spec_Preferred.l1 kq x3_1 t290 x5_1 x6_2 x7_2 = some r) ∧ Aside0 (kq ≤ k1) ∧ Aside0 (Kd.N (Kd.slice 3 (Kd.int .i64)) 38 w' w.heap.size (fun k_ => (w.heap.size ≤ k_) ∧ some k_ ≠ ((.slice Ao9 t290.length co9) : Value).ownBlock ∧ k_ ≠ gb286) u3 x3_1) ∧ Aside0 (Kd.N (Kd.slice 3 (Kd.int .i64)) 38 w' w.heap.size (fun k_ => (w.heap.size ≤ k_) ∧ some k_ ≠ (u3 : Value).ownBlock ∧ k_ ≠ gb286) (.slice Ao9 t290.length co9) t290) ∧ Aside0 (w'.heap[gb286]? = some (.cells #[.int .i64 a0_0, (.slice A0_1 l0_1.length c0_1)] 27 (0, 0))) ∧ Aside0 (Below w.heap.size w w'))
    case atStart => exact ⟨(true), (0), sm_, sm_, H', ⟨Nat.le_refl _⟩, ⟨rN_ HO_3.out⟩, ⟨rN_ HO_4.out⟩, ⟨bk_ BK286.out⟩, ⟨hb_⟩⟩
    case round =>
     clear H'
     try clear c1
     try clear p2
     try clear c8
     try clear c8b0
     try clear hcz6_0
     try clear hcz6_1
     try clear hfz6_0
     try clear hfz6_1
     try clear p2
     obtain ⟨x6_2, x7_2, rfl, rfl, HA, HK2, HO_3, HO_4, BK286, HB⟩ := hrel
     cases gk with
     | zero => exact absurd HA.out (by simp [spec_Preferred.l1])
     | succ k2 =>
      have H := HA.out
      clear HA
      simp only [spec_Preferred.l1] at H
      by_cases c10 : x7_2 < (t290.length : Int)
      ·rw [if_pos c10] at H
       have c10b0 : decide (x7_2 < (t290.length : Int)) = true := decide_eq_true c10
       (try (have c10z := c10b0; rw [hl293_0] at c10z))
       clear c10
       by_cases c11 : x6_2 = true
       ·subst c11
        have H1 : (if x7_2 = x5_1 then (spec_Preferred.l1 k2 x3_1 t290 x5_1 true (wrap64 (x7_2 + 1))) else (if 0 ≤ x5_1 then (if x5_1 < (t290.length : Int) then (if 0 ≤ x7_2 then ((spec_l7Part.f k2 (rd_L1 t290 x5_1) (rd_L1 t290 x7_2)).bind fun t295 => (spec_Preferred.l1 k2 x3_1 t290 x5_1 (!t295) (wrap64 (x7_2 + 1)))) else (none)) else (none)) else (none))) = some r := by rw [if_pos rfl] at H; exact H
        clear H
        have H := H1
        clear H1
        by_cases c12 : x7_2 = x5_1
        ·rw [if_pos c12] at H
         have c12b0 : (x7_2 == x5_1) = true := beq_iff_eq.mpr c12
         have c12b1 : (x7_2 != x5_1) = false := bne_eq_false_iff_eq.mpr c12
         clear c12
         have H' := Aside0.mk H
         clear H
         go_wp2
         repeat (go_quiet (fail); try go_wp2)
         go_roundg k2
         case measure => have := HK1.out; have := HK2.out; omega
         case rel => exact ⟨(true), (wrap64 (x7_2 + 1)), sm_, sm_, H', ⟨by have := HK1.out; have := HK2.out; omega⟩, ⟨rN_ HO_3.out⟩, ⟨rN_ HO_4.out⟩, ⟨bk_ BK286.out⟩, ⟨hb_⟩⟩
        ·rw [if_neg c12] at H
         have c12b0 : (x7_2 == x5_1) = false := beq_eq_false_iff_ne.mpr c12
         have c12b1 : (x7_2 != x5_1) = true := bne_iff_ne.mpr c12
         by_cases c13 : 0 ≤ x5_1
         ·rw [if_pos c13] at H
          have c13b0 : decide (0 ≤ x5_1) = true := decide_eq_true c13
          clear c13
          by_cases c14 : x5_1 < (t290.length : Int)
          ·rw [if_pos c14] at H
           have c14b0 : decide (x5_1 < (t290.length : Int)) = true := decide_eq_true c14
           (try (have c14z := c14b0; rw [hl293_0] at c14z))
           (try (have c14z := c14b0; rw [hl294_0] at c14z))
           clear c14
           by_cases c15 : 0 ≤ x7_2
           ·rw [if_pos c15] at H
            have c15b0 : decide (0 ≤ x7_2) = true := decide_eq_true c15
            clear c15
            replace H := Option.bind_eq_some_iff.mp H
            obtain ⟨t295, A160, H⟩ := H
            replace H : (spec_Preferred.l1 k2 x3_1 t290 x5_1 (!t295) (wrap64 (x7_2 + 1))) = some r := H
            have A16 := Aside0.mk A160
            clear A160
            have H' := Aside0.mk H
            clear H
            have p293 : 0 ≤ (x5_1 : Int) := of_decide_eq_true as_
            have q293 : x5_1 < (t290.length : Int) := of_decide_eq_true as_
            obtain ⟨ad293, A293_0, c293_0, e293, hx293_0, hl293_0, hi293_0⟩ := at_L1 (Kd.N_reads' HO_4.out).2.2 x5_1 p293 q293
            cases e293
            obtain ⟨ce293, hce293, hMe293, hcc293⟩ := Kd.N_get HO_4.out [] x5_1 p293 (by first | exact q293 | exact of_decide_eq_true as_ | (have e_ := (Kd.N_reads' HO_4.out).1; omega))
            obtain ⟨ua293_0, uc293_0, rfl, ul293_0, ge293_0⟩ := Kd.FK_slice_open hMe293
            have hv293_0 := hcc293 0 _ rfl
            rw [Nat.add_zero, show ((Kd.slice 3 (Kd.int .i64))).sz = 1 from rfl, Nat.mul_one] at hv293_0
            replace hv293_0 := Option.some.inj (hv293_0.symm.trans hx293_0)
            injection hv293_0 with hva_ hvn_ hvc_
            rw [hva_] at ge293_0
            rw [hvc_] at ul293_0
            have HL293_0 := Aside0.mk (show Kd.V (Kd.int .i64) 3 _ w.heap.size _ _ (rd_L1 t290 x5_1) from Kd.V_mk ul293_0 ge293_0)
            clear hva_ hvn_ hvc_ ge293_0 ul293_0
            clear hcc293 hce293
            have HR293_0 := Aside0.mk hi293_0
            have HC293_0 := Aside0.mk hl293_0
            clear hi293_0 hl293_0
            replace p293 := eq_true p293
            replace q293 := eq_true q293
            have p294 : 0 ≤ (x7_2 : Int) := of_decide_eq_true as_
            have q294 : x7_2 < (t290.length : Int) := of_decide_eq_true as_
            obtain ⟨ad294, A294_0, c294_0, e294, hx294_0, hl294_0, hi294_0⟩ := at_L1 (Kd.N_reads' HO_4.out).2.2 x7_2 p294 q294
            obtain rfl : ad293 = ad294 := (by injection e294)
            obtain ⟨ce294, hce294, hMe294, hcc294⟩ := Kd.N_get HO_4.out [] x7_2 p294 (by first | exact q294 | exact of_decide_eq_true as_ | (have e_ := (Kd.N_reads' HO_4.out).1; omega))
            obtain ⟨ua294_0, uc294_0, rfl, ul294_0, ge294_0⟩ := Kd.FK_slice_open hMe294
            have hv294_0 := hcc294 0 _ rfl
            rw [Nat.add_zero, show ((Kd.slice 3 (Kd.int .i64))).sz = 1 from rfl, Nat.mul_one] at hv294_0
            replace hv294_0 := Option.some.inj (hv294_0.symm.trans hx294_0)
            injection hv294_0 with hva_ hvn_ hvc_
            rw [hva_] at ge294_0
            rw [hvc_] at ul294_0
            have HL294_0 := Aside0.mk (show Kd.V (Kd.int .i64) 3 _ w.heap.size _ _ (rd_L1 t290 x7_2) from Kd.V_mk ul294_0 ge294_0)
            clear hva_ hvn_ hvc_ ge294_0 ul294_0
            clear hcc294 hce294
            have HR294_0 := Aside0.mk hi294_0
            have HC294_0 := Aside0.mk hl294_0
            clear hi294_0 hl294_0
            replace p294 := eq_true p294
            replace q294 := eq_true q294
            go_wp2_with (first | (go_at_call 52; (with_reducible refine (spec_l7Part.calls k2 _ _ (rd_L1 t290 x5_1) _ _ (rd_L1 t290 x7_2) t295 _ ?side1 ?side2 ?side3 ?side4 A16.out).mono ?_); (case side1 => repeat (first | exact (cf_ HR293_0.out) | (with_reducible refine Zs ?_ _) | (with_reducible refine Zr ?_ _) | (with_reducible refine Zt ?_))); (case side2 => exact HC293_0.out); (case side3 => repeat (first | exact (cf_ HR294_0.out) | (with_reducible refine Zs ?_ _) | (with_reducible refine Zr ?_ _) | (with_reducible refine Zt ?_))); (case side4 => exact HC294_0.out); rintro e w' ⟨rfl, ⟨nd, rfl⟩⟩; (try first | exact ⟨rfl, _, World.drewN_drewN _ _ _⟩ | exact ⟨rfl, _, Eq.trans (World.drewN_drewN _ _ _) (congrArg (World.drewN _) (Nat.add_assoc _ _ _))⟩)))
            repeat (go_quiet (first | (go_at_call 52; (with_reducible refine (spec_l7Part.calls k2 _ _ (rd_L1 t290 x5_1) _ _ (rd_L1 t290 x7_2) t295 _ ?side1 ?side2 ?side3 ?side4 A16.out).mono ?_); (case side1 => repeat (first | exact (cf_ HR293_0.out) | (with_reducible refine Zs ?_ _) | (with_reducible refine Zr ?_ _) | (with_reducible refine Zt ?_))); (case side2 => exact HC293_0.out); (case side3 => repeat (first | exact (cf_ HR294_0.out) | (with_reducible refine Zs ?_ _) | (with_reducible refine Zr ?_ _) | (with_reducible refine Zt ?_))); (case side4 => exact HC294_0.out); rintro e w' ⟨rfl, ⟨nd, rfl⟩⟩; (try first | exact ⟨rfl, _, World.drewN_drewN _ _ _⟩ | exact ⟨rfl, _, Eq.trans (World.drewN_drewN _ _ _) (congrArg (World.drewN _) (Nat.add_assoc _ _ _))⟩))); try go_wp2_with (first | (go_at_call 52; (with_reducible refine (spec_l7Part.calls k2 _ _ (rd_L1 t290 x5_1) _ _ (rd_L1 t290 x7_2) t295 _ ?side1 ?side2 ?side3 ?side4 A16.out).mono ?_); (case side1 => repeat (first | exact (cf_ HR293_0.out) | (with_reducible refine Zs ?_ _) | (with_reducible refine Zr ?_ _) | (with_reducible refine Zt ?_))); (case side2 => exact HC293_0.out); (case side3 => repeat (first | exact (cf_ HR294_0.out) | (with_reducible refine Zs ?_ _) | (with_reducible refine Zr ?_ _) | (with_reducible refine Zt ?_))); (case side4 => exact HC294_0.out); rintro e w' ⟨rfl, ⟨nd, rfl⟩⟩; (try first | exact ⟨rfl, _, World.drewN_drewN _ _ _⟩ | exact ⟨rfl, _, Eq.trans (World.drewN_drewN _ _ _) (congrArg (World.drewN _) (Nat.add_assoc _ _ _))⟩))))
            go_roundg k2
            case measure => have := HK1.out; have := HK2.out; omega
            case rel => exact ⟨(!t295), (wrap64 (x7_2 + 1)), sm_, sm_, H', ⟨by have := HK1.out; have := HK2.out; omega⟩, ⟨rN_ HO_3.out⟩, ⟨rN_ HO_4.out⟩, ⟨bk_ BK286.out⟩, ⟨hb_⟩⟩
           ·rw [if_neg c15] at H
            exact absurd H (by simp)
          ·rw [if_neg c14] at H
           exact absurd H (by simp)
         ·rw [if_neg c13] at H
          exact absurd H (by simp)
       ·replace c11 := Bool.eq_false_iff.mpr c11
        subst c11
        have H1 : (spec_Preferred.l1 k2 x3_1 t290 x5_1 false (wrap64 (x7_2 + 1))) = some r := by rw [if_neg (show ¬ (false = true) by decide)] at H; exact H
        clear H
        have H := H1
        clear H1
        have H' := Aside0.mk H
        clear H
        go_wp2
        repeat (go_quiet (fail); try go_wp2)
        go_roundg k2
        case measure => have := HK1.out; have := HK2.out; omega
        case rel => exact ⟨(false), (wrap64 (x7_2 + 1)), sm_, sm_, H', ⟨by have := HK1.out; have := HK2.out; omega⟩, ⟨rN_ HO_3.out⟩, ⟨rN_ HO_4.out⟩, ⟨bk_ BK286.out⟩, ⟨hb_⟩⟩
      ·rw [if_neg c10] at H
       have c10b0 : decide (x7_2 < (t290.length : Int)) = false := decide_eq_false c10
       (try (have c10z := c10b0; rw [hl294_0] at c10z))
       (try (have c10z := c10b0; rw [hl296_0] at c10z))
       clear c10
       by_cases c17 : x6_2 = true
       ·subst c17
        have H1 : (if 0 ≤ x5_1 then (if x5_1 < (t290.length : Int) then (if x3_1.length < 5864062014805 then (spec_Preferred.l0 k2 (x3_1 ++ [rd_L1 t290 x5_1]) t290 (wrap64 (x5_1 + 1))) else (none)) else (none)) else (none)) = some r := by rw [if_pos rfl] at H; exact H
        clear H
        have H := H1
        clear H1
        by_cases c18 : 0 ≤ x5_1
        ·rw [if_pos c18] at H
         have c18b0 : decide (0 ≤ x5_1) = true := decide_eq_true c18
         clear c18
         by_cases c19 : x5_1 < (t290.length : Int)
         ·rw [if_pos c19] at H
          have c19b0 : decide (x5_1 < (t290.length : Int)) = true := decide_eq_true c19
          (try (have c19z := c19b0; rw [hl296_0] at c19z))
          clear c19
          by_cases c20 : x3_1.length < 5864062014805
          ·rw [if_pos c20] at H
           have LMc20 := Aside0.mk c20
           clear c20
           obtain ⟨y297, hy297⟩ : ∃ y_ : List (List Int), y_ = (x3_1 ++ [rd_L1 t290 x5_1]) := ⟨_, rfl⟩
           replace H : (spec_Preferred.l0 k2 y297 t290 (wrap64 (x5_1 + 1))) = some r := hy_ hy297 H
           have Ny297 := Aside0.mk hy297
           clear hy297
           have H' := Aside0.mk H
           clear H
           have p296 : 0 ≤ (x5_1 : Int) := of_decide_eq_true as_
           have q296 : x5_1 < (t290.length : Int) := of_decide_eq_true as_
           obtain ⟨ad296, A296_0, c296_0, e296, hx296_0, hl296_0, hi296_0⟩ := at_L1 (Kd.N_reads' HO_4.out).2.2 x5_1 p296 q296
           cases e296
           obtain ⟨ce296, hce296, hMe296, hcc296⟩ := Kd.N_get HO_4.out [] x5_1 p296 (by first | exact q296 | exact of_decide_eq_true as_ | (have e_ := (Kd.N_reads' HO_4.out).1; omega))
           obtain ⟨ua296_0, uc296_0, rfl, ul296_0, ge296_0⟩ := Kd.FK_slice_open hMe296
           have hv296_0 := hcc296 0 _ rfl
           rw [Nat.add_zero, show ((Kd.slice 3 (Kd.int .i64))).sz = 1 from rfl, Nat.mul_one] at hv296_0
           replace hv296_0 := Option.some.inj (hv296_0.symm.trans hx296_0)
           injection hv296_0 with hva_ hvn_ hvc_
           rw [hva_] at ge296_0
           rw [hvc_] at ul296_0
           have HL296_0 := Aside0.mk (show Kd.V (Kd.int .i64) 3 _ w.heap.size _ _ (rd_L1 t290 x5_1) from Kd.V_mk ul296_0 ge296_0)
           clear hva_ hvn_ hvc_ ge296_0 ul296_0
           clear hcc296 hce296
           have HR296_0 := Aside0.mk hi296_0
           have HC296_0 := Aside0.mk hl296_0
           clear hi296_0 hl296_0
           replace p296 := eq_true p296
           replace q296 := eq_true q296
           go_wp2_with (first | ((with_reducible refine gate_builtin (b := .append) (xs := #[.tmp 42, .tmp 47]) rfl ?_); at_builtin; refine Kd.N_append (Kd.slice 3 (Kd.int .i64)) (w0 := w) w.heap.size rfl (.tmp 42) (.tmp 47) 22 38 (.slice none 0 0) 24 rfl Try.underlying22 info38 rfl (by decide) (by omega) u3 x3_1 (rd_L1 t290 x5_1) [.slice A296_0 (rd_L1 t290 x5_1).length c296_0] (fun k_ => (w.heap.size ≤ k_) ∧ some k_ ≠ (.slice (some ad296) t290.length co9 : Value).ownBlock ∧ k_ ≠ gb286) (fun k_ => ((fun k_ => (w.heap.size ≤ k_) ∧ some k_ ≠ (.slice (some ad296) t290.length co9 : Value).ownBlock ∧ k_ ≠ gb286)) k_ ∧ some k_ ≠ (u3 : Value).ownBlock) rfl rfl ?aP (fun _ hk => hk) ?aF ?aO ?aB ?aS ?aL ?_; (case aP => first | exact (Kd.FK_slice_mk (Kd.V_reads' (ZE (ok' := (fun k_ => ((fun k_ => (w.heap.size ≤ k_) ∧ some k_ ≠ (.slice (some ad296) t290.length co9 : Value).ownBlock ∧ k_ ≠ gb286)) k_ ∧ some k_ ≠ (u3 : Value).ownBlock)) (HL296_0.out) (fun k_ hk => ⟨⟨hk.1.1, ⟨hk.2, hk.1.2.2⟩⟩, hk.1.2.1⟩))).2.1 (Kd.V_F (ZE (ok' := (fun k_ => ((fun k_ => (w.heap.size ≤ k_) ∧ some k_ ≠ (.slice (some ad296) t290.length co9 : Value).ownBlock ∧ k_ ≠ gb286)) k_ ∧ some k_ ≠ (u3 : Value).ownBlock)) (HL296_0.out) (fun k_ hk => ⟨⟨hk.1.1, ⟨hk.2, hk.1.2.2⟩⟩, hk.1.2.1⟩)))) | (have q1 := ZI HL296_0.out nq; have q2 := ZE (ok' := (fun k_ => ((fun k_ => (w.heap.size ≤ k_) ∧ some k_ ≠ (.slice (some ad296) t290.length co9 : Value).ownBlock ∧ k_ ≠ gb286)) k_ ∧ some k_ ≠ (u3 : Value).ownBlock)) q1 (fun k_ hk => ⟨⟨hk.1.1, ⟨hk.2, hk.1.2.2⟩⟩, hk.1.2.1⟩); exact Kd.FK_slice_mk (Kd.V_reads' q2).2.1 (Kd.V_F q2))); (case aB => exact hb_); (case aF => exact (fun k_ hk => ⟨(Nat.le_trans (Zk hb_) hk), Kd.fresh' (Kd.N_lt (rN_ HO_4.out)) k_ hk, Kd.freshB (g := gb286) (o := .cells #[.int .i64 a0_0, .slice A0_1 l0_1.length c0_1] 27 (0, 0)) (bk_ BK286.out) k_ hk⟩)); (case aO => exact (rN_ HO_3.out)); (case aS => exact (Zk hb_)); (case aL => have := LMc20.out; omega); intro v298 w21 ho hb hg hat; rw [← Ny297.out] at ho; have n0_ := Aside0.mk (Kd.N_afterv (ok := (fun k_ => (w.heap.size ≤ k_) ∧ k_ ≠ gb286)) (by (with_reducible repeat (first | apply ZB | apply ZA | apply ZC)); exact Zx HO_4.out (fun _ hk => ⟨⟨hk.1, hk.2.2⟩, hk.2.1⟩)) hg hat); have n1_ := Aside0.mk (blk_grown (g := gb286) (o := .cells #[.int .i64 a0_0, .slice A0_1 l0_1.length c0_1] 27 (0, 0)) (bk_ BK286.out) hg (Kd.N_ne HO_3.out BK286.out (by decide))); have n2_ := Aside0.mk (Kd.V_afterv (ok := (fun k_ => (w.heap.size ≤ k_) ∧ some k_ ≠ (.slice (some ad296) t290.length co9 : Value).ownBlock ∧ k_ ≠ gb286)) (by (with_reducible repeat (first | apply Kd.V_alloc | apply ZI | apply Kd.V_drew)); exact ZE HL296_0.out (fun _ hk => ⟨⟨hk.1.1, ⟨hk.2, hk.1.2.2⟩⟩, hk.1.2.1⟩)) hg hat); have n3_ := Aside0.mk (hb); have n4_ := Aside0.mk (ho); clear HO_4; clear BK286; clear HL296_0; clear HB; clear HO_3; have HO_4 := n0_; have BK286 := n1_; have HL296_0 := n2_; have HB := n3_; have HO299 := n4_; clear n0_ n1_ n2_ n3_ n4_; clear ho hb hg hat))
           repeat (go_quiet (first | ((with_reducible refine gate_builtin (b := .append) (xs := #[.tmp 42, .tmp 47]) rfl ?_); at_builtin; refine Kd.N_append (Kd.slice 3 (Kd.int .i64)) (w0 := w) w.heap.size rfl (.tmp 42) (.tmp 47) 22 38 (.slice none 0 0) 24 rfl Try.underlying22 info38 rfl (by decide) (by omega) u3 x3_1 (rd_L1 t290 x5_1) [.slice A296_0 (rd_L1 t290 x5_1).length c296_0] (fun k_ => (w.heap.size ≤ k_) ∧ some k_ ≠ (.slice (some ad296) t290.length co9 : Value).ownBlock ∧ k_ ≠ gb286) (fun k_ => ((fun k_ => (w.heap.size ≤ k_) ∧ some k_ ≠ (.slice (some ad296) t290.length co9 : Value).ownBlock ∧ k_ ≠ gb286)) k_ ∧ some k_ ≠ (u3 : Value).ownBlock) rfl rfl ?aP (fun _ hk => hk) ?aF ?aO ?aB ?aS ?aL ?_; (case aP => first | exact (Kd.FK_slice_mk (Kd.V_reads' (ZE (ok' := (fun k_ => ((fun k_ => (w.heap.size ≤ k_) ∧ some k_ ≠ (.slice (some ad296) t290.length co9 : Value).ownBlock ∧ k_ ≠ gb286)) k_ ∧ some k_ ≠ (u3 : Value).ownBlock)) (HL296_0.out) (fun k_ hk => ⟨⟨hk.1.1, ⟨hk.2, hk.1.2.2⟩⟩, hk.1.2.1⟩))).2.1 (Kd.V_F (ZE (ok' := (fun k_ => ((fun k_ => (w.heap.size ≤ k_) ∧ some k_ ≠ (.slice (some ad296) t290.length co9 : Value).ownBlock ∧ k_ ≠ gb286)) k_ ∧ some k_ ≠ (u3 : Value).ownBlock)) (HL296_0.out) (fun k_ hk => ⟨⟨hk.1.1, ⟨hk.2, hk.1.2.2⟩⟩, hk.1.2.1⟩)))) | (have q1 := ZI HL296_0.out nq; have q2 := ZE (ok' := (fun k_ => ((fun k_ => (w.heap.size ≤ k_) ∧ some k_ ≠ (.slice (some ad296) t290.length co9 : Value).ownBlock ∧ k_ ≠ gb286)) k_ ∧ some k_ ≠ (u3 : Value).ownBlock)) q1 (fun k_ hk => ⟨⟨hk.1.1, ⟨hk.2, hk.1.2.2⟩⟩, hk.1.2.1⟩); exact Kd.FK_slice_mk (Kd.V_reads' q2).2.1 (Kd.V_F q2))); (case aB => exact hb_); (case aF => exact (fun k_ hk => ⟨(Nat.le_trans (Zk hb_) hk), Kd.fresh' (Kd.N_lt (rN_ HO_4.out)) k_ hk, Kd.freshB (g := gb286) (o := .cells #[.int .i64 a0_0, .slice A0_1 l0_1.length c0_1] 27 (0, 0)) (bk_ BK286.out) k_ hk⟩)); (case aO => exact (rN_ HO_3.out)); (case aS => exact (Zk hb_)); (case aL => have := LMc20.out; omega); intro v298 w21 ho hb hg hat; rw [← Ny297.out] at ho; have n0_ := Aside0.mk (Kd.N_afterv (ok := (fun k_ => (w.heap.size ≤ k_) ∧ k_ ≠ gb286)) (by (with_reducible repeat (first | apply ZB | apply ZA | apply ZC)); exact Zx HO_4.out (fun _ hk => ⟨⟨hk.1, hk.2.2⟩, hk.2.1⟩)) hg hat); have n1_ := Aside0.mk (blk_grown (g := gb286) (o := .cells #[.int .i64 a0_0, .slice A0_1 l0_1.length c0_1] 27 (0, 0)) (bk_ BK286.out) hg (Kd.N_ne HO_3.out BK286.out (by decide))); have n2_ := Aside0.mk (Kd.V_afterv (ok := (fun k_ => (w.heap.size ≤ k_) ∧ some k_ ≠ (.slice (some ad296) t290.length co9 : Value).ownBlock ∧ k_ ≠ gb286)) (by (with_reducible repeat (first | apply Kd.V_alloc | apply ZI | apply Kd.V_drew)); exact ZE HL296_0.out (fun _ hk => ⟨⟨hk.1.1, ⟨hk.2, hk.1.2.2⟩⟩, hk.1.2.1⟩)) hg hat); have n3_ := Aside0.mk (hb); have n4_ := Aside0.mk (ho); clear HO_4; clear BK286; clear HL296_0; clear HB; clear HO_3; have HO_4 := n0_; have BK286 := n1_; have HL296_0 := n2_; have HB := n3_; have HO299 := n4_; clear n0_ n1_ n2_ n3_ n4_; clear ho hb hg hat)); try go_wp2_with (first | ((with_reducible refine gate_builtin (b := .append) (xs := #[.tmp 42, .tmp 47]) rfl ?_); at_builtin; refine Kd.N_append (Kd.slice 3 (Kd.int .i64)) (w0 := w) w.heap.size rfl (.tmp 42) (.tmp 47) 22 38 (.slice none 0 0) 24 rfl Try.underlying22 info38 rfl (by decide) (by omega) u3 x3_1 (rd_L1 t290 x5_1) [.slice A296_0 (rd_L1 t290 x5_1).length c296_0] (fun k_ => (w.heap.size ≤ k_) ∧ some k_ ≠ (.slice (some ad296) t290.length co9 : Value).ownBlock ∧ k_ ≠ gb286) (fun k_ => ((fun k_ => (w.heap.size ≤ k_) ∧ some k_ ≠ (.slice (some ad296) t290.length co9 : Value).ownBlock ∧ k_ ≠ gb286)) k_ ∧ some k_ ≠ (u3 : Value).ownBlock) rfl rfl ?aP (fun _ hk => hk) ?aF ?aO ?aB ?aS ?aL ?_; (case aP => first | exact (Kd.FK_slice_mk (Kd.V_reads' (ZE (ok' := (fun k_ => ((fun k_ => (w.heap.size ≤ k_) ∧ some k_ ≠ (.slice (some ad296) t290.length co9 : Value).ownBlock ∧ k_ ≠ gb286)) k_ ∧ some k_ ≠ (u3 : Value).ownBlock)) (HL296_0.out) (fun k_ hk => ⟨⟨hk.1.1, ⟨hk.2, hk.1.2.2⟩⟩, hk.1.2.1⟩))).2.1 (Kd.V_F (ZE (ok' := (fun k_ => ((fun k_ => (w.heap.size ≤ k_) ∧ some k_ ≠ (.slice (some ad296) t290.length co9 : Value).ownBlock ∧ k_ ≠ gb286)) k_ ∧ some k_ ≠ (u3 : Value).ownBlock)) (HL296_0.out) (fun k_ hk => ⟨⟨hk.1.1, ⟨hk.2, hk.1.2.2⟩⟩, hk.1.2.1⟩)))) | (have q1 := ZI HL296_0.out nq; have q2 := ZE (ok' := (fun k_ => ((fun k_ => (w.heap.size ≤ k_) ∧ some k_ ≠ (.slice (some ad296) t290.length co9 : Value).ownBlock ∧ k_ ≠ gb286)) k_ ∧ some k_ ≠ (u3 : Value).ownBlock)) q1 (fun k_ hk => ⟨⟨hk.1.1, ⟨hk.2, hk.1.2.2⟩⟩, hk.1.2.1⟩); exact Kd.FK_slice_mk (Kd.V_reads' q2).2.1 (Kd.V_F q2))); (case aB => exact hb_); (case aF => exact (fun k_ hk => ⟨(Nat.le_trans (Zk hb_) hk), Kd.fresh' (Kd.N_lt (rN_ HO_4.out)) k_ hk, Kd.freshB (g := gb286) (o := .cells #[.int .i64 a0_0, .slice A0_1 l0_1.length c0_1] 27 (0, 0)) (bk_ BK286.out) k_ hk⟩)); (case aO => exact (rN_ HO_3.out)); (case aS => exact (Zk hb_)); (case aL => have := LMc20.out; omega); intro v298 w21 ho hb hg hat; rw [← Ny297.out] at ho; have n0_ := Aside0.mk (Kd.N_afterv (ok := (fun k_ => (w.heap.size ≤ k_) ∧ k_ ≠ gb286)) (by (with_reducible repeat (first | apply ZB | apply ZA | apply ZC)); exact Zx HO_4.out (fun _ hk => ⟨⟨hk.1, hk.2.2⟩, hk.2.1⟩)) hg hat); have n1_ := Aside0.mk (blk_grown (g := gb286) (o := .cells #[.int .i64 a0_0, .slice A0_1 l0_1.length c0_1] 27 (0, 0)) (bk_ BK286.out) hg (Kd.N_ne HO_3.out BK286.out (by decide))); have n2_ := Aside0.mk (Kd.V_afterv (ok := (fun k_ => (w.heap.size ≤ k_) ∧ some k_ ≠ (.slice (some ad296) t290.length co9 : Value).ownBlock ∧ k_ ≠ gb286)) (by (with_reducible repeat (first | apply Kd.V_alloc | apply ZI | apply Kd.V_drew)); exact ZE HL296_0.out (fun _ hk => ⟨⟨hk.1.1, ⟨hk.2, hk.1.2.2⟩⟩, hk.1.2.1⟩)) hg hat); have n3_ := Aside0.mk (hb); have n4_ := Aside0.mk (ho); clear HO_4; clear BK286; clear HL296_0; clear HB; clear HO_3; have HO_4 := n0_; have BK286 := n1_; have HL296_0 := n2_; have HB := n3_; have HO299 := n4_; clear n0_ n1_ n2_ n3_ n4_; clear ho hb hg hat)))
           go_roundg k2
           case measure => have := HK1.out; have := HK2.out; omega
           case rel => exact ⟨(y297), (wrap64 (x5_1 + 1)), sm_, H', ⟨by have := HK1.out; have := HK2.out; omega⟩, ⟨rN_ HO299.out⟩, ⟨by (with_reducible repeat (first | apply ZB | apply ZA | apply ZC)); exact Zx HO_4.out (fun _ hk => ⟨hk.1.1, ⟨hk.2, hk.1.2⟩⟩)⟩, ⟨bk_ BK286.out⟩, ⟨hb_⟩⟩
          ·rw [if_neg c20] at H
           exact absurd H (by simp)
         ·rw [if_neg c19] at H
          exact absurd H (by simp)
        ·rw [if_neg c18] at H
         exact absurd H (by simp)
       ·replace c17 := Bool.eq_false_iff.mpr c17
        subst c17
        have H1 : (spec_Preferred.l0 k2 x3_1 t290 (wrap64 (x5_1 + 1))) = some r := by rw [if_neg (show ¬ (false = true) by decide)] at H; exact H
        clear H
        have H := H1
        clear H1
        have H' := Aside0.mk H
        clear H
        go_wp2
        repeat (go_quiet (fail); try go_wp2)
        go_roundg k2
        case measure => have := HK1.out; have := HK2.out; omega
        case rel => exact ⟨(x3_1), (wrap64 (x5_1 + 1)), sm_, H', ⟨by have := HK1.out; have := HK2.out; omega⟩, ⟨rN_ HO_3.out⟩, ⟨rN_ HO_4.out⟩, ⟨bk_ BK286.out⟩, ⟨hb_⟩⟩
   ·rw [if_neg c8] at H
    have c8b0 : decide (x5_1 < (t290.length : Int)) = false := decide_eq_false c8
    (try (have c8z := c8b0; rw [hl296_0] at c8z))
    clear c8
    obtain rfl := Option.some.inj H
    obtain ⟨Ao22, co22, eo22⟩ := Kd.N_slice HO_4.out
    subst eo22
    go_wp2
    repeat (go_quiet (fail); try go_wp2)
    go_ret
    exact ⟨_, er_, by (with_reducible repeat (first | apply ZB | apply ZA | apply ZC)); exact Zx HO_3.out (fun _ hk => hk.1), hb_⟩

/-! ### impl_InRange: function 83 -/
def impl_InRange.f (a0 : Int) (a1 : Int) (a2 : Int) : Option (Bool) := if a1 ≤ a0 then (some (decide (a0 ≤ a2))) else (some false)
set_option maxHeartbeats 8000000 in
set_option maxRecDepth 100000 in
theorem impl_InRange.calls (a0 : Int) (a1 : Int) (a2 : Int) (r : Bool) (w : World) (h : impl_InRange.f a0 a1 a2 = some r) :
  Calls Try.prog 83 #[.int .i64 a0, .int .i64 a1, .int .i64 a2] w fun e w' => e = .returned (.bool r) ∧ Drawn0 w w' := by
 have H : (if a1 ≤ a0 then (some (decide (a0 ≤ a2))) else (some false)) = some r := h
 clear h
 by_cases c4 : a1 ≤ a0
 ·rw [if_pos c4] at H
  have c4b0 : decide (a1 ≤ a0) = true := decide_eq_true c4
  clear c4
  obtain rfl := Option.some.inj H
  go_enter Try.func83, Try.ntmps83
  go_wp2
  go_ret
  exact ⟨sm_, dr_⟩
 ·rw [if_neg c4] at H
  have c4b0 : decide (a1 ≤ a0) = false := decide_eq_false c4
  clear c4
  obtain rfl := Option.some.inj H
  go_enter Try.func83, Try.ntmps83
  go_wp2
  go_ret
  exact ⟨sm_, dr_⟩

/-! ### impl_isClaim: function 63 -/
def impl_isClaim.f (a0_0 : Int) (l0_1 : List (List Int)) (a1 : Int) : Option (Bool) := (impl_InRange.f a1 0 (wrap64 (a0_0 - 1))).bind fun t301 => (some t301)
set_option maxHeartbeats 8000000 in
set_option maxRecDepth 100000 in
theorem impl_isClaim.calls (a0_0 : Int) (A0_1 : Option Addr) (c0_1 : Nat) (l0_1 : List (List Int)) (a1 : Int) (r : Bool) (w : World) (hr0_1 : Kd.C (Kd.slice 3 (Kd.int .i64)) w A0_1 l0_1.length l0_1) (hc0_1 : l0_1.length ≤ c0_1) (h : impl_isClaim.f a0_0 l0_1 a1 = some r) :
  Calls Try.prog 63 #[.agg #[.int .i64 a0_0, .slice A0_1 l0_1.length c0_1], .int .i64 a1] w fun e w' => e = .returned (.bool r) ∧ Below w.heap.size w w' := by
 have hu27 := Try.underlying27
 have HR0_1 := Aside0.mk hr0_1
 have HC0_1 := Aside0.mk hc0_1
 clear hr0_1 hc0_1
 have HB := Aside0.mk (Below.refl w.heap.size w)
 have H : ((impl_InRange.f a1 0 (wrap64 (a0_0 - 1))).bind fun t301 => (some t301)) = some r := h
 clear h
 replace H := Option.bind_eq_some_iff.mp H
 obtain ⟨t301, A30, H⟩ := H
 replace H : (some t301) = some r := H
 have A3 := Aside0.mk A30
 clear A30
 obtain rfl := Option.some.inj H
 go_enter Try.func63, Try.ntmps63
 go_wp2_with (first | ((with_reducible refine Zy (N := 2) rfl ?_); refine Zz ?hg (N := 2) ?hd (cs := #[.int .i64 a0_0, .slice A0_1 l0_1.length c0_1]) (t := 27) ?hr ?_; (case hd => rfl); (case hg => rfl); (case hr => first | (go_simp; done) | (go_simp; rfl)); intro gb300 hg w4 hbox hb; have n0_ := Aside0.mk (Zf hb_ hb); have n1_ := Aside0.mk (hbox); have n2_ := Aside0.mk ((hz_ hg : w.heap.size ≤ gb300)); have n3_ := Aside0.mk ((hz_ hg : w.heap.size ≤ gb300)); clear HB; have HB := n0_; have BK300 := n1_; have GW300 := n2_; have GE300 := n3_; clear n0_ n1_ n2_ n3_; clear hb hbox hg; have hcz5_0 : w4.cell? ⟨gb300, 0, none⟩ = some (.int .i64 a0_0) := (Ze BK300.out 0).trans rfl; have hcz5_1 : w4.cell? ⟨gb300, 1, none⟩ = some (.slice A0_1 l0_1.length c0_1) := (Ze BK300.out 1).trans rfl; have hfz5_0 := Zd BK300.out 0; have hfz5_1 := Zd BK300.out 1) | ((with_reducible refine Zg (f := 83) rfl ?_); refine Zw (some 9) rfl rfl Try.func83 (by kernel_rfl) rfl #[.int .i64 a1, .int .i64 0, .int .i64 (wrap64 (a0_0 - 1))] rfl ar_ ?_; (with_reducible refine (impl_InRange.calls a1 0 (wrap64 (a0_0 - 1)) t301 _ A3.out).mono ?_); rintro e w' ⟨rfl, ⟨nd, rfl⟩⟩; refine ⟨_, rfl, ?_⟩))
 go_ret
 exact ⟨er_, hb_⟩

/-! ### cmp_isNaN_int: function 108 -/
def cmp_isNaN_int.f (a0 : Int) : Option (Bool) := some (a0 != a0)
set_option maxHeartbeats 8000000 in
set_option maxRecDepth 100000 in
theorem cmp_isNaN_int.calls (a0 : Int) (r : Bool) (w : World) (h : cmp_isNaN_int.f a0 = some r) :
  Calls Try.prog 108 #[.int .i64 a0] w fun e w' => e = .returned (.bool r) ∧ Drawn0 w w' := by
 have H : (some (a0 != a0)) = some r := h
 clear h
 obtain rfl := Option.some.inj H
 go_enter Try.func108, Try.ntmps108
 go_wp2
 go_ret
 exact ⟨sm_, dr_⟩

/-! ### cmp_Compare_int: function 92 -/
def cmp_Compare_int.f (a0 : Int) (a1 : Int) : Option (Int) := (cmp_isNaN_int.f a0).bind fun t302 => ((cmp_isNaN_int.f a1).bind fun t303 => (if t302 = true then (if t303 = true then (some 0) else (some (-1))) else (if t303 = true then (some 1) else (if a0 < a1 then (some (-1)) else (if a0 > a1 then (some 1) else (some 0))))))
set_option maxHeartbeats 8000000 in
set_option maxRecDepth 100000 in
theorem cmp_Compare_int.calls (a0 : Int) (a1 : Int) (r : Int) (w : World) (h : cmp_Compare_int.f a0 a1 = some r) :
  Calls Try.prog 92 #[.int .i64 a0, .int .i64 a1] w fun e w' => e = .returned (.int .i64 r) ∧ Drawn0 w w' := by
 have H : ((cmp_isNaN_int.f a0).bind fun t302 => ((cmp_isNaN_int.f a1).bind fun t303 => (if t302 = true then (if t303 = true then (some 0) else (some (-1))) else (if t303 = true then (some 1) else (if a0 < a1 then (some (-1)) else (if a0 > a1 then (some 1) else (some 0))))))) = some r := h
 clear h
 replace H := Option.bind_eq_some_iff.mp H
 obtain ⟨t302, A30, H⟩ := H
 replace H : ((cmp_isNaN_int.f a1).bind fun t303 => (if t302 = true then (if t303 = true then (some 0) else (some (-1))) else (if t303 = true then (some 1) else (if a0 < a1 then (some (-1)) else (if a0 > a1 then (some 1) else (some 0)))))) = some r := H
 have A3 := Aside0.mk A30
 clear A30
 replace H := Option.bind_eq_some_iff.mp H
 obtain ⟨t303, A40, H⟩ := H
 replace H : (if t302 = true then (if t303 = true then (some 0) else (some (-1))) else (if t303 = true then (some 1) else (if a0 < a1 then (some (-1)) else (if a0 > a1 then (some 1) else (some 0))))) = some r := H
 have A4 := Aside0.mk A40
 clear A40
 by_cases c5 : t302 = true
 ·subst c5
  have H1 : (if t303 = true then (some 0) else (some (-1))) = some r := by rw [if_pos rfl] at H; exact H
  clear H
  have H := H1
  clear H1
  by_cases c6 : t303 = true
  ·subst c6
   have H1 : (some 0) = some r := by rw [if_pos rfl] at H; exact H
   clear H
   have H := H1
   clear H1
   obtain rfl := Option.some.inj H
   go_enter Try.func92, Try.ntmps92
   go_wp2_with (first | ((with_reducible refine Zg (f := 108) rfl ?_); refine Zw (some 8) rfl rfl Try.func108 (by kernel_rfl) rfl #[.int .i64 a0] rfl ar_ ?_; (with_reducible refine (cmp_isNaN_int.calls a0 true _ A3.out).mono ?_); rintro e w' ⟨rfl, ⟨nd, rfl⟩⟩; refine ⟨_, rfl, ?_⟩) | ((with_reducible refine Zg (f := 108) rfl ?_); refine Zw (some 10) rfl rfl Try.func108 (by kernel_rfl) rfl #[.int .i64 a1] rfl ar_ ?_; (with_reducible refine (cmp_isNaN_int.calls a1 true _ A4.out).mono ?_); rintro e w' ⟨rfl, ⟨nd, rfl⟩⟩; refine ⟨_, rfl, ?_⟩))
   go_ret
   exact ⟨sm_, dr_⟩
  ·replace c6 := Bool.eq_false_iff.mpr c6
   subst c6
   have H1 : (some (-1)) = some r := by rw [if_neg (show ¬ (false = true) by decide)] at H; exact H
   clear H
   have H := H1
   clear H1
   obtain rfl := Option.some.inj H
   go_enter Try.func92, Try.ntmps92
   go_wp2_with (first | ((with_reducible refine Zg (f := 108) rfl ?_); refine Zw (some 8) rfl rfl Try.func108 (by kernel_rfl) rfl #[.int .i64 a0] rfl ar_ ?_; (with_reducible refine (cmp_isNaN_int.calls a0 true _ A3.out).mono ?_); rintro e w' ⟨rfl, ⟨nd, rfl⟩⟩; refine ⟨_, rfl, ?_⟩) | ((with_reducible refine Zg (f := 108) rfl ?_); refine Zw (some 10) rfl rfl Try.func108 (by kernel_rfl) rfl #[.int .i64 a1] rfl ar_ ?_; (with_reducible refine (cmp_isNaN_int.calls a1 false _ A4.out).mono ?_); rintro e w' ⟨rfl, ⟨nd, rfl⟩⟩; refine ⟨_, rfl, ?_⟩))
   go_ret
   exact ⟨sm_, dr_⟩
 ·replace c5 := Bool.eq_false_iff.mpr c5
  subst c5
  have H1 : (if t303 = true then (some 1) else (if a0 < a1 then (some (-1)) else (if a0 > a1 then (some 1) else (some 0)))) = some r := by rw [if_neg (show ¬ (false = true) by decide)] at H; exact H
  clear H
  have H := H1
  clear H1
  by_cases c7 : t303 = true
  ·subst c7
   have H1 : (some 1) = some r := by rw [if_pos rfl] at H; exact H
   clear H
   have H := H1
   clear H1
   obtain rfl := Option.some.inj H
   go_enter Try.func92, Try.ntmps92
   go_wp2_with (first | ((with_reducible refine Zg (f := 108) rfl ?_); refine Zw (some 8) rfl rfl Try.func108 (by kernel_rfl) rfl #[.int .i64 a0] rfl ar_ ?_; (with_reducible refine (cmp_isNaN_int.calls a0 false _ A3.out).mono ?_); rintro e w' ⟨rfl, ⟨nd, rfl⟩⟩; refine ⟨_, rfl, ?_⟩) | ((with_reducible refine Zg (f := 108) rfl ?_); refine Zw (some 10) rfl rfl Try.func108 (by kernel_rfl) rfl #[.int .i64 a1] rfl ar_ ?_; (with_reducible refine (cmp_isNaN_int.calls a1 true _ A4.out).mono ?_); rintro e w' ⟨rfl, ⟨nd, rfl⟩⟩; refine ⟨_, rfl, ?_⟩))
   go_ret
   exact ⟨sm_, dr_⟩
  ·replace c7 := Bool.eq_false_iff.mpr c7
   subst c7
   have H1 : (if a0 < a1 then (some (-1)) else (if a0 > a1 then (some 1) else (some 0))) = some r := by rw [if_neg (show ¬ (false = true) by decide)] at H; exact H
   clear H
   have H := H1
   clear H1
   by_cases c8 : a0 < a1
   ·rw [if_pos c8] at H
    have c8b0 : decide (a0 < a1) = true := decide_eq_true c8
    clear c8
    obtain rfl := Option.some.inj H
    go_enter Try.func92, Try.ntmps92
    go_wp2_with (first | ((with_reducible refine Zg (f := 108) rfl ?_); refine Zw (some 8) rfl rfl Try.func108 (by kernel_rfl) rfl #[.int .i64 a0] rfl ar_ ?_; (with_reducible refine (cmp_isNaN_int.calls a0 false _ A3.out).mono ?_); rintro e w' ⟨rfl, ⟨nd, rfl⟩⟩; refine ⟨_, rfl, ?_⟩) | ((with_reducible refine Zg (f := 108) rfl ?_); refine Zw (some 10) rfl rfl Try.func108 (by kernel_rfl) rfl #[.int .i64 a1] rfl ar_ ?_; (with_reducible refine (cmp_isNaN_int.calls a1 false _ A4.out).mono ?_); rintro e w' ⟨rfl, ⟨nd, rfl⟩⟩; refine ⟨_, rfl, ?_⟩))
    go_ret
    exact ⟨sm_, dr_⟩
   ·rw [if_neg c8] at H
    have c8b0 : decide (a0 < a1) = false := decide_eq_false c8
    clear c8
    by_cases c9 : a0 > a1
    ·rw [if_pos c9] at H
     have c9b0 : decide (a1 < a0) = true := decide_eq_true c9
     clear c9
     obtain rfl := Option.some.inj H
     go_enter Try.func92, Try.ntmps92
     go_wp2_with (first | ((with_reducible refine Zg (f := 108) rfl ?_); refine Zw (some 8) rfl rfl Try.func108 (by kernel_rfl) rfl #[.int .i64 a0] rfl ar_ ?_; (with_reducible refine (cmp_isNaN_int.calls a0 false _ A3.out).mono ?_); rintro e w' ⟨rfl, ⟨nd, rfl⟩⟩; refine ⟨_, rfl, ?_⟩) | ((with_reducible refine Zg (f := 108) rfl ?_); refine Zw (some 10) rfl rfl Try.func108 (by kernel_rfl) rfl #[.int .i64 a1] rfl ar_ ?_; (with_reducible refine (cmp_isNaN_int.calls a1 false _ A4.out).mono ?_); rintro e w' ⟨rfl, ⟨nd, rfl⟩⟩; refine ⟨_, rfl, ?_⟩))
     go_ret
     exact ⟨sm_, dr_⟩
    ·rw [if_neg c9] at H
     have c9b0 : decide (a1 < a0) = false := decide_eq_false c9
     clear c9
     obtain rfl := Option.some.inj H
     go_enter Try.func92, Try.ntmps92
     go_wp2_with (first | ((with_reducible refine Zg (f := 108) rfl ?_); refine Zw (some 8) rfl rfl Try.func108 (by kernel_rfl) rfl #[.int .i64 a0] rfl ar_ ?_; (with_reducible refine (cmp_isNaN_int.calls a0 false _ A3.out).mono ?_); rintro e w' ⟨rfl, ⟨nd, rfl⟩⟩; refine ⟨_, rfl, ?_⟩) | ((with_reducible refine Zg (f := 108) rfl ?_); refine Zw (some 10) rfl rfl Try.func108 (by kernel_rfl) rfl #[.int .i64 a1] rfl ar_ ?_; (with_reducible refine (cmp_isNaN_int.calls a1 false _ A4.out).mono ?_); rintro e w' ⟨rfl, ⟨nd, rfl⟩⟩; refine ⟨_, rfl, ?_⟩))
     go_ret
     exact ⟨sm_, dr_⟩

/-! ### slices_Compare_int_int: function 81 -/
def slices_Compare_int_int.l0 : Nat → List Int → List Int → List Int → Int → Int → Option (Int)
 | 0, _, _, _, _, _ => none
 | k + 1, x0, x1, x9, x10, x11 => if x11 < x10 then (if 0 ≤ x11 then (if x11 < (x9.length : Int) then (if x11 ≥ (x1.length : Int) then (some 1) else (if x11 < (x1.length : Int) then ((cmp_Compare_int.f (rd x9 x11) (rd x1 x11)).bind fun t306 => (if t306 = 0 then (slices_Compare_int_int.l0 k x0 x1 x9 x10 (wrap64 (x11 + 1))) else (some t306))) else (none))) else (none)) else (none)) else (if (x0.length : Int) < (x1.length : Int) then (some (-1)) else (some 0))
def slices_Compare_int_int.f (k : Nat) (l0 : List Int) (l1 : List Int) : Option (Int) := slices_Compare_int_int.l0 k l0 l1 l0 (l0.length : Int) 0
theorem slices_Compare_int_int.mono_l : ∀ k, (∀ y0 y1 y2 y3 y4, LeO (slices_Compare_int_int.l0 k y0 y1 y2 y3 y4) (slices_Compare_int_int.l0 (k + 1) y0 y1 y2 y3 y4))
 | 0 => fun _ _ _ _ _ r h => by simp [slices_Compare_int_int.l0] at h
 | k + 1 => by
  have ih0 := slices_Compare_int_int.mono_l k
  ·intro y0 y1 y2 y3 y4
   unfold slices_Compare_int_int.l0
   repeat' first
   | (with_reducible exact ih0 _ _ _ _ _)
   | (with_reducible exact Zv _)
   | (with_reducible exact Zh _)
   | (with_reducible refine Zn ?_ ?_)
   | (with_reducible refine Zi ?_ (fun _ => ?_))
   | exact ih0 _ _ _ _ _
   | exact Zh _
   | refine Zn ?_ ?_
   | refine Zi ?_ (fun _ => ?_)
theorem slices_Compare_int_int.mono : ∀ a0 a1 k, LeO (slices_Compare_int_int.f k a0 a1) (slices_Compare_int_int.f (k + 1) a0 a1) := by
 intro a0 a1 k
 have ih0 := slices_Compare_int_int.mono_l k
 unfold slices_Compare_int_int.f
 repeat' first
   | (with_reducible exact ih0 _ _ _ _ _)
   | (with_reducible exact Zv _)
   | (with_reducible exact Zh _)
   | (with_reducible refine Zn ?_ ?_)
   | (with_reducible refine Zi ?_ (fun _ => ?_))
   | exact ih0 _ _ _ _ _
   | exact Zh _
   | refine Zn ?_ ?_
   | refine Zi ?_ (fun _ => ?_)
set_option maxHeartbeats 8000000 in
set_option maxRecDepth 100000 in
theorem slices_Compare_int_int.calls (k : Nat) (A0 : Option Addr) (c0 : Nat) (l0 : List Int) (A1 : Option Addr) (c1 : Nat) (l1 : List Int) (r : Int) (w : World) (hr0 : Kd.C (Kd.int .i64) w A0 l0.length l0) (hc0 : l0.length ≤ c0) (hr1 : Kd.C (Kd.int .i64) w A1 l1.length l1) (hc1 : l1.length ≤ c1) (h : slices_Compare_int_int.f k l0 l1 = some r) :
  Calls Try.prog 81 #[.slice A0 l0.length c0, .slice A1 l1.length c1] w fun e w' => e = .returned (.int .i64 r) ∧ Drawn0 w w' := by
 have HR0 := Aside0.mk hr0
 have HC0 := Aside0.mk hc0
 clear hr0 hc0
 have HR1 := Aside0.mk hr1
 have HC1 := Aside0.mk hc1
 clear hr1 hc1
 have H : (slices_Compare_int_int.l0 k l0 l1 l0 (l0.length : Int) 0) = some r := h
 clear h
 have H' := Aside0.mk H
 clear H
 go_enter Try.func81, Try.ntmps81
 go_wp2
 go_loopg [11] k (fun kq v11 w' => ∃ (x11_1 : Int), v11 = .int .i64 x11_1 ∧ Aside0 (slices_Compare_int_int.l0 kq l0 l1 l0 (l0.length : Int) x11_1 = some r) ∧ Aside0 (kq ≤ k) ∧ Drawn0 w w')
 case atStart => exact ⟨(0), sm_, H', ⟨Nat.le_refl _⟩, dr_⟩
 case round =>
  clear H'
  try clear c1
  try clear p2
  obtain ⟨x11_1, rfl, HA, HK1, ⟨m1, rfl⟩⟩ := hrel
  cases gk with
  | zero => exact absurd HA.out (by simp [slices_Compare_int_int.l0])
  | succ k1 =>
   have H := HA.out
   clear HA
   simp only [slices_Compare_int_int.l0] at H
   by_cases c3 : x11_1 < (l0.length : Int)
   ·rw [if_pos c3] at H
    have c3b0 : decide (x11_1 < (l0.length : Int)) = true := decide_eq_true c3
    clear c3
    by_cases c4 : 0 ≤ x11_1
    ·rw [if_pos c4] at H
     have c4b0 : decide (0 ≤ x11_1) = true := decide_eq_true c4
     clear c4
     by_cases c5 : x11_1 < (l0.length : Int)
     ·rw [if_pos c5] at H
      have c5b0 : decide (x11_1 < (l0.length : Int)) = true := decide_eq_true c5
      clear c5
      by_cases c6 : x11_1 ≥ (l1.length : Int)
      ·rw [if_pos c6] at H
       have c6b0 : decide ((l1.length : Int) ≤ x11_1) = true := decide_eq_true c6
       clear c6
       obtain rfl := Option.some.inj H
       have p304 : 0 ≤ (x11_1 : Int) := of_decide_eq_true as_
       have q304 : x11_1 < (l0.length : Int) := of_decide_eq_true as_
       obtain ⟨ad304, e304, hx304_0⟩ := Zo HR0.out x11_1 p304 q304
       cases e304
       replace p304 := eq_true p304
       replace q304 := eq_true q304
       go_wp2
       go_ret
       exact ⟨sm_, dr_⟩
      ·rw [if_neg c6] at H
       have c6b0 : decide ((l1.length : Int) ≤ x11_1) = false := decide_eq_false c6
       clear c6
       by_cases c7 : x11_1 < (l1.length : Int)
       ·rw [if_pos c7] at H
        have c7b0 : decide (x11_1 < (l1.length : Int)) = true := decide_eq_true c7
        clear c7
        replace H := Option.bind_eq_some_iff.mp H
        obtain ⟨t306, A80, H⟩ := H
        replace H : (if t306 = 0 then (slices_Compare_int_int.l0 k1 l0 l1 l0 (l0.length : Int) (wrap64 (x11_1 + 1))) else (some t306)) = some r := H
        have A8 := Aside0.mk A80
        clear A80
        by_cases c9 : t306 = 0
        ·rw [if_pos c9] at H
         have c9b0 : (t306 == 0) = true := beq_iff_eq.mpr c9
         have c9b1 : (t306 != 0) = false := bne_eq_false_iff_eq.mpr c9
         clear c9
         have H' := Aside0.mk H
         clear H
         have p304 : 0 ≤ (x11_1 : Int) := of_decide_eq_true as_
         have q304 : x11_1 < (l0.length : Int) := of_decide_eq_true as_
         obtain ⟨ad304, e304, hx304_0⟩ := Zo HR0.out x11_1 p304 q304
         cases e304
         replace p304 := eq_true p304
         replace q304 := eq_true q304
         have p305 : 0 ≤ (x11_1 : Int) := of_decide_eq_true as_
         have q305 : x11_1 < (l1.length : Int) := of_decide_eq_true as_
         obtain ⟨ad305, e305, hx305_0⟩ := Zo HR1.out x11_1 p305 q305
         cases e305
         replace p305 := eq_true p305
         replace q305 := eq_true q305
         go_wp2_with (first | ((with_reducible refine Zg (f := 92) rfl ?_); refine Zw (some 26) rfl rfl Try.func92 (by kernel_rfl) rfl #[.int .i64 (rd l0 x11_1), .int .i64 (rd l1 x11_1)] rfl ar_ ?_; (with_reducible refine (cmp_Compare_int.calls (rd l0 x11_1) (rd l1 x11_1) t306 _ A8.out).mono ?_); rintro e w' ⟨rfl, ⟨nd, rfl⟩⟩; refine ⟨_, rfl, ?_⟩))
         go_roundg k1
         case measure => have := HK1.out; omega
         case rel => exact ⟨(wrap64 (x11_1 + 1)), sm_, H', ⟨by have := HK1.out; omega⟩, dr_⟩
        ·rw [if_neg c9] at H
         have c9b0 : (t306 == 0) = false := beq_eq_false_iff_ne.mpr c9
         have c9b1 : (t306 != 0) = true := bne_iff_ne.mpr c9
         obtain rfl := Option.some.inj H
         have p304 : 0 ≤ (x11_1 : Int) := of_decide_eq_true as_
         have q304 : x11_1 < (l0.length : Int) := of_decide_eq_true as_
         obtain ⟨ad304, e304, hx304_0⟩ := Zo HR0.out x11_1 p304 q304
         cases e304
         replace p304 := eq_true p304
         replace q304 := eq_true q304
         have p305 : 0 ≤ (x11_1 : Int) := of_decide_eq_true as_
         have q305 : x11_1 < (l1.length : Int) := of_decide_eq_true as_
         obtain ⟨ad305, e305, hx305_0⟩ := Zo HR1.out x11_1 p305 q305
         cases e305
         replace p305 := eq_true p305
         replace q305 := eq_true q305
         go_wp2_with (first | ((with_reducible refine Zg (f := 92) rfl ?_); refine Zw (some 26) rfl rfl Try.func92 (by kernel_rfl) rfl #[.int .i64 (rd l0 x11_1), .int .i64 (rd l1 x11_1)] rfl ar_ ?_; (with_reducible refine (cmp_Compare_int.calls (rd l0 x11_1) (rd l1 x11_1) t306 _ A8.out).mono ?_); rintro e w' ⟨rfl, ⟨nd, rfl⟩⟩; refine ⟨_, rfl, ?_⟩))
         go_ret
         exact ⟨sm_, dr_⟩
       ·rw [if_neg c7] at H
        exact absurd H (by simp)
     ·rw [if_neg c5] at H
      exact absurd H (by simp)
    ·rw [if_neg c4] at H
     exact absurd H (by simp)
   ·rw [if_neg c3] at H
    have c3b0 : decide (x11_1 < (l0.length : Int)) = false := decide_eq_false c3
    clear c3
    by_cases c10 : (l0.length : Int) < (l1.length : Int)
    ·rw [if_pos c10] at H
     have c10b0 : decide ((l0.length : Int) < (l1.length : Int)) = true := decide_eq_true c10
     have c10b1 : decide (l0.length < l1.length) = true := decide_eq_true (Int.ofNat_lt.mp c10)
     clear c10
     obtain rfl := Option.some.inj H
     go_wp2
     go_ret
     exact ⟨sm_, dr_⟩
    ·rw [if_neg c10] at H
     have c10b0 : decide ((l0.length : Int) < (l1.length : Int)) = false := decide_eq_false c10
     have c10b1 : decide (l0.length < l1.length) = false := decide_eq_false (fun h => c10 (Int.ofNat_lt.mpr h))
     clear c10
     obtain rfl := Option.some.inj H
     go_wp2
     go_ret
     exact ⟨sm_, dr_⟩

end Go.Proofs.Ytkmhkkhlbnhaaaa.PFnExactPreferred
