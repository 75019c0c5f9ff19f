-- Written by a program of this session (hooks of mine on the print): Lean checks it.
import Derived.Test.YtkmhkkhlbnhaaaaPFnExactPreferredx0
import Derived.Test.YtkmhkkhlbnhaaaaPFnExactPreferredx1
import Derived.Test.YtkmhkkhlbnhaaaaPFnExactPreferredx2
import Derived.Test.YtkmhkkhlbnhaaaaPFnExactPreferredx7
import Derived.Test.YtkmhkkhlbnhaaaaPFnExactPreferredx12
namespace Go.Proofs.Ytkmhkkhlbnhaaaa.PFnExactPreferred
open Go.RowKit Go.Proofs.YtkmhkkhlbnhaaaaW.PrintWords Go.Proofs.YtkmhkkhlbnhaaaaW.PrintLast Go.Proofs.YtkmhkkhlbnhaaaaW.PrintMore
attribute [local go_sem] max2_int min2_int max_two min_two max_three min_three max_four min_four   -- for this text's walks alone
set_option linter.unusedVariables false
set_option linter.unusedSimpArgs false

/-! ### laws_heldIntSS: function 23 -/
def laws_heldIntSS.l0 : Nat → List (List Int) → Int → Int → Option (Int)
 | 0, _, _, _ => none
 | k + 1, x0, x1, x5 => if x5 < (x0.length : Int) then (if 0 ≤ x5 then ((laws_heldIntS.f k (rd_L1 x0 x5) x1).bind fun t416 => (if t416 < 0 then (some (-1)) else (laws_heldIntSS.l0 k x0 t416 (wrap64 (x5 + 1))))) else (none)) else (some x1)
def laws_heldIntSS.f (k : Nat) (l0 : List (List Int)) (a1 : Int) : Option (Int) := laws_heldIntSS.l0 k l0 a1 0
theorem laws_heldIntSS.mono_l : ∀ k, (∀ y0 y1 y2, LeO (laws_heldIntSS.l0 k y0 y1 y2) (laws_heldIntSS.l0 (k + 1) y0 y1 y2))
 | 0 => fun _ _ _ r h => by simp [laws_heldIntSS.l0] at h
 | k + 1 => by
  have ih0 := laws_heldIntSS.mono_l k
  ·intro y0 y1 y2
   unfold laws_heldIntSS.l0
   repeat' first
   | (with_reducible exact ih0 _ _ _)
   | (with_reducible exact laws_heldIntS.mono _ _ _)
   | (with_reducible exact Zv _)
   | (with_reducible exact Zh _)
   | (with_reducible refine Zn ?_ ?_)
   | (with_reducible refine Zi ?_ (fun _ => ?_))
   | exact ih0 _ _ _
   | exact laws_heldIntS.mono _ _ _
   | exact Zh _
   | refine Zn ?_ ?_
   | refine Zi ?_ (fun _ => ?_)
theorem laws_heldIntSS.mono : ∀ a0 a1 k, LeO (laws_heldIntSS.f k a0 a1) (laws_heldIntSS.f (k + 1) a0 a1) := by
 intro a0 a1 k
 have ih0 := laws_heldIntSS.mono_l k
 unfold laws_heldIntSS.f
 repeat' first
   | (with_reducible exact ih0 _ _ _)
   | (with_reducible exact laws_heldIntS.mono _ _ _)
   | (with_reducible exact Zv _)
   | (with_reducible exact Zh _)
   | (with_reducible refine Zn ?_ ?_)
   | (with_reducible refine Zi ?_ (fun _ => ?_))
   | exact ih0 _ _ _
   | exact laws_heldIntS.mono _ _ _
   | exact Zh _
   | refine Zn ?_ ?_
   | refine Zi ?_ (fun _ => ?_)
set_option maxHeartbeats 8000000 in
set_option maxRecDepth 100000 in
theorem laws_heldIntSS.calls (k : Nat) (A0 : Option Addr) (c0 : Nat) (l0 : List (List Int)) (a1 : Int) (r : Int) (w : World) (hr0 : Kd.C (Kd.slice 3 (Kd.int .i64)) w A0 l0.length l0) (hc0 : l0.length ≤ c0) (h : laws_heldIntSS.f k l0 a1 = some r) :
  Calls Try.prog 23 #[.slice A0 l0.length c0, .int .i64 a1] w fun e w' => e = .returned (.int .i64 r) ∧ Drawn0 w w' := by
 have HR0 := Aside0.mk hr0
 have HC0 := Aside0.mk hc0
 clear hr0 hc0
 have H : (laws_heldIntSS.l0 k l0 a1 0) = some r := h
 clear h
 have H' := Aside0.mk H
 clear H
 go_enter Try.func23, Try.ntmps23
 go_wp2
 go_loopg [1, 5] k (fun kq v1 v5 w' => ∃ (x1_1 : Int) (x5_1 : Int), v1 = .int .i64 x1_1 ∧ v5 = .int .i64 x5_1 ∧ Aside0 (laws_heldIntSS.l0 kq l0 x1_1 x5_1 = some r) ∧ Aside0 (kq ≤ k) ∧ Drawn0 w w')
 case atStart => exact ⟨(a1), (0), sm_, sm_, H', ⟨Nat.le_refl _⟩, dr_⟩
 case round =>
  clear H'
  try clear c2
  try clear p2
  obtain ⟨x1_1, x5_1, rfl, rfl, HA, HK1, ⟨m1, rfl⟩⟩ := hrel
  cases gk with
  | zero => exact absurd HA.out (by simp [laws_heldIntSS.l0])
  | succ k1 =>
   have H := HA.out
   clear HA
   simp only [laws_heldIntSS.l0] at H
   by_cases c3 : x5_1 < (l0.length : Int)
   ·rw [if_pos c3] at H
    have c3b0 : decide (x5_1 < (l0.length : Int)) = true := decide_eq_true c3
    clear c3
    by_cases c4 : 0 ≤ x5_1
    ·rw [if_pos c4] at H
     have c4b0 : decide (0 ≤ x5_1) = true := decide_eq_true c4
     clear c4
     replace H := Option.bind_eq_some_iff.mp H
     obtain ⟨t416, A50, H⟩ := H
     replace H : (if t416 < 0 then (some (-1)) else (laws_heldIntSS.l0 k1 l0 t416 (wrap64 (x5_1 + 1)))) = some r := H
     have A5 := Aside0.mk A50
     clear A50
     by_cases c6 : t416 < 0
     ·rw [if_pos c6] at H
      have c6b0 : decide (t416 < 0) = true := decide_eq_true c6
      clear c6
      obtain rfl := Option.some.inj H
      have p415 : 0 ≤ (x5_1 : Int) := of_decide_eq_true as_
      have q415 : x5_1 < (l0.length : Int) := of_decide_eq_true as_
      obtain ⟨ad415, A415_0, c415_0, e415, hx415_0, hl415_0, hi415_0⟩ := at_L1 HR0.out x5_1 p415 q415
      cases e415
      have HR415_0 := Aside0.mk hi415_0
      have HC415_0 := Aside0.mk hl415_0
      clear hi415_0 hl415_0
      replace p415 := eq_true p415
      replace q415 := eq_true q415
      go_wp2_with (first | ((with_reducible refine Zg (f := 37) rfl ?_); refine Zw (some 17) rfl rfl Try.func37 (by kernel_rfl) rfl #[.slice A415_0 (rd_L1 l0 x5_1).length c415_0, .int .i64 x1_1] rfl ar_ ?_; (with_reducible refine (laws_heldIntS.calls k1 _ _ (rd_L1 l0 x5_1) x1_1 t416 _ ?side1 ?side2 A5.out).mono ?_); (case side1 => repeat (first | exact HR415_0.out | (with_reducible refine Zs ?_ _) | (with_reducible refine Zr ?_ _) | (with_reducible refine Zt ?_))); (case side2 => exact HC415_0.out); rintro e w' ⟨rfl, ⟨nd, rfl⟩⟩; refine ⟨_, rfl, ?_⟩))
      go_ret
      exact ⟨sm_, dr_⟩
     ·rw [if_neg c6] at H
      have c6b0 : decide (t416 < 0) = false := decide_eq_false c6
      clear c6
      have H' := Aside0.mk H
      clear H
      have p415 : 0 ≤ (x5_1 : Int) := of_decide_eq_true as_
      have q415 : x5_1 < (l0.length : Int) := of_decide_eq_true as_
      obtain ⟨ad415, A415_0, c415_0, e415, hx415_0, hl415_0, hi415_0⟩ := at_L1 HR0.out x5_1 p415 q415
      cases e415
      have HR415_0 := Aside0.mk hi415_0
      have HC415_0 := Aside0.mk hl415_0
      clear hi415_0 hl415_0
      replace p415 := eq_true p415
      replace q415 := eq_true q415
      go_wp2_with (first | ((with_reducible refine Zg (f := 37) rfl ?_); refine Zw (some 17) rfl rfl Try.func37 (by kernel_rfl) rfl #[.slice A415_0 (rd_L1 l0 x5_1).length c415_0, .int .i64 x1_1] rfl ar_ ?_; (with_reducible refine (laws_heldIntS.calls k1 _ _ (rd_L1 l0 x5_1) x1_1 t416 _ ?side1 ?side2 A5.out).mono ?_); (case side1 => repeat (first | exact HR415_0.out | (with_reducible refine Zs ?_ _) | (with_reducible refine Zr ?_ _) | (with_reducible refine Zt ?_))); (case side2 => exact HC415_0.out); rintro e w' ⟨rfl, ⟨nd, rfl⟩⟩; refine ⟨_, rfl, ?_⟩))
      go_roundg k1
      case measure => have := HK1.out; omega
      case rel => exact ⟨(t416), (wrap64 (x5_1 + 1)), sm_, sm_, H', ⟨by have := HK1.out; omega⟩, dr_⟩
    ·rw [if_neg c4] at H
     exact absurd H (by simp)
   ·rw [if_neg c3] at H
    have c3b0 : decide (x5_1 < (l0.length : Int)) = false := decide_eq_false c3
    clear c3
    obtain rfl := Option.some.inj H
    go_wp2
    go_ret
    exact ⟨sm_, dr_⟩

/-! ### laws_FnExactPreferred: function 4 -/
def laws_FnExactPreferred.j0 : Nat → List (List Int) → List (List Int) → Bool → Int → List (List Int) → Option (Bool)
 | 0, _, _, _, _, _ => none
 | k + 1, x4, x6, x42, x418000, x418001 => if x42 = true then (some false) else ((laws_markIntSS.f k x6 1).bind fun bt443 => ((laws_heldIntSS.f k bt443.2 1).bind fun t445 => (if t445 < 0 then (some false) else (if t445 = bt443.1 then ((laws_toGraph.f k x418000 x418001).bind fun bt446 => ((impl_Preferred.f k bt446.1 bt446.2).bind fun t450 => ((laws_eqIntSS.f k t450 x4).bind fun t453 => (if t453 = true then ((laws_heldIntSS.f k bt443.2 1).bind fun t454 => (if t454 < 0 then (some false) else (if t454 = bt443.1 then (some true) else (some false)))) else (some false))))) else (some false)))))
def laws_FnExactPreferred.f (k : Nat) (a0_0 : Int) (l0_1 : List (List Int)) : Option (Bool) := (laws_szGraph.f k a0_0 l0_1 1048576).bind fun t418 => (if t418 < 0 then (some true) else ((laws_toGraph.f k a0_0 l0_1).bind fun bt419 => ((spec_Preferred.f k bt419.1 bt419.2).bind fun t423 => ((laws_toGraph.f k a0_0 l0_1).bind fun bt426 => ((impl_Preferred.f k bt426.1 bt426.2).bind fun t431 => ((laws_eqIntSS.f k t431 t423).bind fun t434 => (if t434 = true then ((laws_toGraph.f k a0_0 l0_1).bind fun bt435 => ((laws_eqGraph.f k bt426.1 bt426.2 bt435.1 bt435.2).bind fun t439 => (if t439 = true then ((laws_markGraph.f k bt426.1 bt426.2 1).bind fun bt440 => (if bt440.1 < 0 then (laws_FnExactPreferred.j0 k t423 t431 true a0_0 l0_1) else ((laws_eqIntSS.f k t431 t423).bind fun t442 => (laws_FnExactPreferred.j0 k t423 t431 (!t442) a0_0 l0_1)))) else (some false)))) else (some false))))))))
theorem laws_FnExactPreferred.mono_l : ∀ k, (∀ y0 y1 y2 y3 y4, LeO (laws_FnExactPreferred.j0 k y0 y1 y2 y3 y4) (laws_FnExactPreferred.j0 (k + 1) y0 y1 y2 y3 y4))
 | 0 => fun _ _ _ _ _ r h => by simp [laws_FnExactPreferred.j0] at h
 | k + 1 => by
  have ih0 := laws_FnExactPreferred.mono_l k
  ·intro y0 y1 y2 y3 y4
   unfold laws_FnExactPreferred.j0
   repeat' first
   | (with_reducible exact ih0 _ _ _ _ _)
   | (with_reducible exact impl_Preferred.mono _ _ _)
   | (with_reducible exact laws_eqGraph.mono _ _ _ _ _)
   | (with_reducible exact laws_eqIntSS.mono _ _ _)
   | (with_reducible exact laws_heldIntSS.mono _ _ _)
   | (with_reducible exact laws_markGraph.mono _ _ _ _)
   | (with_reducible exact laws_markIntSS.mono _ _ _)
   | (with_reducible exact laws_szGraph.mono _ _ _ _)
   | (with_reducible exact laws_toGraph.mono _ _ _)
   | (with_reducible exact spec_Preferred.mono _ _ _)
   | (with_reducible exact Zv _)
   | (with_reducible exact Zh _)
   | (with_reducible refine Zn ?_ ?_)
   | (with_reducible refine Zi ?_ (fun _ => ?_))
   | exact ih0 _ _ _ _ _
   | exact impl_Preferred.mono _ _ _
   | exact laws_eqGraph.mono _ _ _ _ _
   | exact laws_eqIntSS.mono _ _ _
   | exact laws_heldIntSS.mono _ _ _
   | exact laws_markGraph.mono _ _ _ _
   | exact laws_markIntSS.mono _ _ _
   | exact laws_szGraph.mono _ _ _ _
   | exact laws_toGraph.mono _ _ _
   | exact spec_Preferred.mono _ _ _
   | exact Zh _
   | refine Zn ?_ ?_
   | refine Zi ?_ (fun _ => ?_)
theorem laws_FnExactPreferred.mono : ∀ a0 a1 k, LeO (laws_FnExactPreferred.f k a0 a1) (laws_FnExactPreferred.f (k + 1) a0 a1) := by
 intro a0 a1 k
 have ih0 := laws_FnExactPreferred.mono_l k
 unfold laws_FnExactPreferred.f
 repeat' first
   | (with_reducible exact ih0 _ _ _ _ _)
   | (with_reducible exact impl_Preferred.mono _ _ _)
   | (with_reducible exact laws_eqGraph.mono _ _ _ _ _)
   | (with_reducible exact laws_eqIntSS.mono _ _ _)
   | (with_reducible exact laws_heldIntSS.mono _ _ _)
   | (with_reducible exact laws_markGraph.mono _ _ _ _)
   | (with_reducible exact laws_markIntSS.mono _ _ _)
   | (with_reducible exact laws_szGraph.mono _ _ _ _)
   | (with_reducible exact laws_toGraph.mono _ _ _)
   | (with_reducible exact spec_Preferred.mono _ _ _)
   | (with_reducible exact Zv _)
   | (with_reducible exact Zh _)
   | (with_reducible refine Zn ?_ ?_)
   | (with_reducible refine Zi ?_ (fun _ => ?_))
   | exact ih0 _ _ _ _ _
   | exact impl_Preferred.mono _ _ _
   | exact laws_eqGraph.mono _ _ _ _ _
   | exact laws_eqIntSS.mono _ _ _
   | exact laws_heldIntSS.mono _ _ _
   | exact laws_markGraph.mono _ _ _ _
   | exact laws_markIntSS.mono _ _ _
   | exact laws_szGraph.mono _ _ _ _
   | exact laws_toGraph.mono _ _ _
   | exact spec_Preferred.mono _ _ _
   | exact Zh _
   | refine Zn ?_ ?_
   | refine Zi ?_ (fun _ => ?_)
set_option maxHeartbeats 8000000 in
set_option maxRecDepth 100000 in
theorem laws_FnExactPreferred.calls (k : Nat) (a0_0 : Int) (A0_1 : Option Addr) (c0_1 : Nat) (l0_1 : List (List Int)) (r : Bool) (w : World) (hr0_1 : Kd.C (Kd.slice 3 (Kd.int .i64)) w A0_1 l0_1.length l0_1) (hc0_1 : l0_1.length ≤ c0_1) (h : laws_FnExactPreferred.f k a0_0 l0_1 = some r) :
  Calls Try.prog 4 #[.agg #[.int .i64 a0_0, .slice A0_1 l0_1.length c0_1]] w fun e w' => e = .returned (.bool r) ∧ Below w.heap.size w w' := by
 have hu24 := Try.underlying24
 have hu27 := Try.underlying27
 have HR0_1 := Aside0.mk hr0_1
 have HC0_1 := Aside0.mk hc0_1
 clear hr0_1 hc0_1
 have HB := Aside0.mk (Below.refl w.heap.size w)
 have H : ((laws_szGraph.f k a0_0 l0_1 1048576).bind fun t418 => (if t418 < 0 then (some true) else ((laws_toGraph.f k a0_0 l0_1).bind fun bt419 => ((spec_Preferred.f k bt419.1 bt419.2).bind fun t423 => ((laws_toGraph.f k a0_0 l0_1).bind fun bt426 => ((impl_Preferred.f k bt426.1 bt426.2).bind fun t431 => ((laws_eqIntSS.f k t431 t423).bind fun t434 => (if t434 = true then ((laws_toGraph.f k a0_0 l0_1).bind fun bt435 => ((laws_eqGraph.f k bt426.1 bt426.2 bt435.1 bt435.2).bind fun t439 => (if t439 = true then ((laws_markGraph.f k bt426.1 bt426.2 1).bind fun bt440 => (if bt440.1 < 0 then (laws_FnExactPreferred.j0 k t423 t431 true a0_0 l0_1) else ((laws_eqIntSS.f k t431 t423).bind fun t442 => (laws_FnExactPreferred.j0 k t423 t431 (!t442) a0_0 l0_1)))) else (some false)))) else (some false))))))))) = some r := h
 clear h
 replace H := Option.bind_eq_some_iff.mp H
 obtain ⟨t418, A20, H⟩ := H
 replace H : (if t418 < 0 then (some true) else ((laws_toGraph.f k a0_0 l0_1).bind fun bt419 => ((spec_Preferred.f k bt419.1 bt419.2).bind fun t423 => ((laws_toGraph.f k a0_0 l0_1).bind fun bt426 => ((impl_Preferred.f k bt426.1 bt426.2).bind fun t431 => ((laws_eqIntSS.f k t431 t423).bind fun t434 => (if t434 = true then ((laws_toGraph.f k a0_0 l0_1).bind fun bt435 => ((laws_eqGraph.f k bt426.1 bt426.2 bt435.1 bt435.2).bind fun t439 => (if t439 = true then ((laws_markGraph.f k bt426.1 bt426.2 1).bind fun bt440 => (if bt440.1 < 0 then (laws_FnExactPreferred.j0 k t423 t431 true a0_0 l0_1) else ((laws_eqIntSS.f k t431 t423).bind fun t442 => (laws_FnExactPreferred.j0 k t423 t431 (!t442) a0_0 l0_1)))) else (some false)))) else (some false)))))))) = some r := H
 have A2 := Aside0.mk A20
 clear A20
 by_cases c3 : t418 < 0
 ·rw [if_pos c3] at H
  have c3b0 : decide (t418 < 0) = true := decide_eq_true c3
  clear c3
  obtain rfl := Option.some.inj H
  go_enter Try.func4, Try.ntmps4
  go_wp2_with (first | ((with_reducible refine Zy (N := 1) rfl ?_); refine Zz ?hg (N := 1) ?hd (cs := #[.int .i64 a0_0, .slice A0_1 l0_1.length c0_1]) (t := 24) ?hr ?_; (case hd => rfl); (case hg => rfl); (case hr => first | (go_simp; done) | (go_simp; rfl)); intro gb417 hg w4 hbox hb; have n0_ := Aside0.mk (Zf hb_ hb); have n1_ := Aside0.mk (hbox); have n2_ := Aside0.mk ((hz_ hg : w.heap.size ≤ gb417)); have n3_ := Aside0.mk ((hz_ hg : w.heap.size ≤ gb417)); clear HB; have HB := n0_; have BK417 := n1_; have GW417 := n2_; have GE417 := n3_; clear n0_ n1_ n2_ n3_; clear hb hbox hg; have hcz5_0 : w4.cell? ⟨gb417, 0, none⟩ = some (.int .i64 a0_0) := (Ze BK417.out 0).trans rfl; have hcz5_1 : w4.cell? ⟨gb417, 1, none⟩ = some (.slice A0_1 l0_1.length c0_1) := (Ze BK417.out 1).trans rfl; have hfz5_0 := Zd BK417.out 0; have hfz5_1 := Zd BK417.out 1) | ((with_reducible refine Zg (f := 13) rfl ?_); refine Zw (some 13) rfl rfl Try.func13 (by kernel_rfl) rfl #[.agg #[.int .i64 a0_0, .slice A0_1 l0_1.length c0_1], .int .i64 1048576] rfl ar_ ?_; (with_reducible refine (laws_szGraph.calls k a0_0 _ _ l0_1 1048576 t418 _ ?side1 ?side2 A2.out).mono ?_); (case side1 => exact cb_ HR0_1.out); (case side2 => exact HC0_1.out); rintro e w6 ⟨rfl, hb⟩; refine ⟨_, rfl, ?_⟩; have n0_ := Aside0.mk (Zj (g := gb417) (o := .cells #[.int .i64 a0_0, .slice A0_1 l0_1.length c0_1] 24 (0, 0)) (bk_ BK417.out) hb); have n1_ := Aside0.mk (Zf hb_ hb); clear BK417; clear HB; have BK417 := n0_; have HB := n1_; clear n0_ n1_; (try clear hb); (try clear hb2); (try clear hk); (try clear hi)))
  all_goals go_ret
  all_goals exact ⟨er_, hb_⟩
 ·rw [if_neg c3] at H
  have c3b0 : decide (t418 < 0) = false := decide_eq_false c3
  clear c3
  replace H := Option.bind_eq_some_iff.mp H
  obtain ⟨⟨t419, t420⟩, A70, H⟩ := H
  replace H : ((spec_Preferred.f k t419 t420).bind fun t423 => ((laws_toGraph.f k a0_0 l0_1).bind fun bt426 => ((impl_Preferred.f k bt426.1 bt426.2).bind fun t431 => ((laws_eqIntSS.f k t431 t423).bind fun t434 => (if t434 = true then ((laws_toGraph.f k a0_0 l0_1).bind fun bt435 => ((laws_eqGraph.f k bt426.1 bt426.2 bt435.1 bt435.2).bind fun t439 => (if t439 = true then ((laws_markGraph.f k bt426.1 bt426.2 1).bind fun bt440 => (if bt440.1 < 0 then (laws_FnExactPreferred.j0 k t423 t431 true a0_0 l0_1) else ((laws_eqIntSS.f k t431 t423).bind fun t442 => (laws_FnExactPreferred.j0 k t423 t431 (!t442) a0_0 l0_1)))) else (some false)))) else (some false)))))) = some r := H
  have A7 := Aside0.mk A70
  clear A70
  replace H := Option.bind_eq_some_iff.mp H
  obtain ⟨t423, A80, H⟩ := H
  replace H : ((laws_toGraph.f k a0_0 l0_1).bind fun bt426 => ((impl_Preferred.f k bt426.1 bt426.2).bind fun t431 => ((laws_eqIntSS.f k t431 t423).bind fun t434 => (if t434 = true then ((laws_toGraph.f k a0_0 l0_1).bind fun bt435 => ((laws_eqGraph.f k bt426.1 bt426.2 bt435.1 bt435.2).bind fun t439 => (if t439 = true then ((laws_markGraph.f k bt426.1 bt426.2 1).bind fun bt440 => (if bt440.1 < 0 then (laws_FnExactPreferred.j0 k t423 t431 true a0_0 l0_1) else ((laws_eqIntSS.f k t431 t423).bind fun t442 => (laws_FnExactPreferred.j0 k t423 t431 (!t442) a0_0 l0_1)))) else (some false)))) else (some false))))) = some r := H
  have A8 := Aside0.mk A80
  clear A80
  replace H := Option.bind_eq_some_iff.mp H
  obtain ⟨⟨t426, t427⟩, A90, H⟩ := H
  replace H : ((impl_Preferred.f k t426 t427).bind fun t431 => ((laws_eqIntSS.f k t431 t423).bind fun t434 => (if t434 = true then ((laws_toGraph.f k a0_0 l0_1).bind fun bt435 => ((laws_eqGraph.f k t426 t427 bt435.1 bt435.2).bind fun t439 => (if t439 = true then ((laws_markGraph.f k t426 t427 1).bind fun bt440 => (if bt440.1 < 0 then (laws_FnExactPreferred.j0 k t423 t431 true a0_0 l0_1) else ((laws_eqIntSS.f k t431 t423).bind fun t442 => (laws_FnExactPreferred.j0 k t423 t431 (!t442) a0_0 l0_1)))) else (some false)))) else (some false)))) = some r := H
  have A9 := Aside0.mk A90
  clear A90
  replace H := Option.bind_eq_some_iff.mp H
  obtain ⟨t431, A100, H⟩ := H
  replace H : ((laws_eqIntSS.f k t431 t423).bind fun t434 => (if t434 = true then ((laws_toGraph.f k a0_0 l0_1).bind fun bt435 => ((laws_eqGraph.f k t426 t427 bt435.1 bt435.2).bind fun t439 => (if t439 = true then ((laws_markGraph.f k t426 t427 1).bind fun bt440 => (if bt440.1 < 0 then (laws_FnExactPreferred.j0 k t423 t431 true a0_0 l0_1) else ((laws_eqIntSS.f k t431 t423).bind fun t442 => (laws_FnExactPreferred.j0 k t423 t431 (!t442) a0_0 l0_1)))) else (some false)))) else (some false))) = some r := H
  have A10 := Aside0.mk A100
  clear A100
  replace H := Option.bind_eq_some_iff.mp H
  obtain ⟨t434, A110, H⟩ := H
  replace H : (if t434 = true then ((laws_toGraph.f k a0_0 l0_1).bind fun bt435 => ((laws_eqGraph.f k t426 t427 bt435.1 bt435.2).bind fun t439 => (if t439 = true then ((laws_markGraph.f k t426 t427 1).bind fun bt440 => (if bt440.1 < 0 then (laws_FnExactPreferred.j0 k t423 t431 true a0_0 l0_1) else ((laws_eqIntSS.f k t431 t423).bind fun t442 => (laws_FnExactPreferred.j0 k t423 t431 (!t442) a0_0 l0_1)))) else (some false)))) else (some false)) = some r := H
  have A11 := Aside0.mk A110
  clear A110
  by_cases c12 : t434 = true
  ·subst c12
   have H1 : ((laws_toGraph.f k a0_0 l0_1).bind fun bt435 => ((laws_eqGraph.f k t426 t427 bt435.1 bt435.2).bind fun t439 => (if t439 = true then ((laws_markGraph.f k t426 t427 1).bind fun bt440 => (if bt440.1 < 0 then (laws_FnExactPreferred.j0 k t423 t431 true a0_0 l0_1) else ((laws_eqIntSS.f k t431 t423).bind fun t442 => (laws_FnExactPreferred.j0 k t423 t431 (!t442) a0_0 l0_1)))) else (some false)))) = some r := by rw [if_pos rfl] at H; exact H
   clear H
   have H := H1
   clear H1
   replace H := Option.bind_eq_some_iff.mp H
   obtain ⟨⟨t435, t436⟩, A130, H⟩ := H
   replace H : ((laws_eqGraph.f k t426 t427 t435 t436).bind fun t439 => (if t439 = true then ((laws_markGraph.f k t426 t427 1).bind fun bt440 => (if bt440.1 < 0 then (laws_FnExactPreferred.j0 k t423 t431 true a0_0 l0_1) else ((laws_eqIntSS.f k t431 t423).bind fun t442 => (laws_FnExactPreferred.j0 k t423 t431 (!t442) a0_0 l0_1)))) else (some false))) = some r := H
   have A13 := Aside0.mk A130
   clear A130
   replace H := Option.bind_eq_some_iff.mp H
   obtain ⟨t439, A140, H⟩ := H
   replace H : (if t439 = true then ((laws_markGraph.f k t426 t427 1).bind fun bt440 => (if bt440.1 < 0 then (laws_FnExactPreferred.j0 k t423 t431 true a0_0 l0_1) else ((laws_eqIntSS.f k t431 t423).bind fun t442 => (laws_FnExactPreferred.j0 k t423 t431 (!t442) a0_0 l0_1)))) else (some false)) = some r := H
   have A14 := Aside0.mk A140
   clear A140
   by_cases c15 : t439 = true
   ·subst c15
    have H1 : ((laws_markGraph.f k t426 t427 1).bind fun bt440 => (if bt440.1 < 0 then (laws_FnExactPreferred.j0 k t423 t431 true a0_0 l0_1) else ((laws_eqIntSS.f k t431 t423).bind fun t442 => (laws_FnExactPreferred.j0 k t423 t431 (!t442) a0_0 l0_1)))) = some r := by rw [if_pos rfl] at H; exact H
    clear H
    have H := H1
    clear H1
    replace H := Option.bind_eq_some_iff.mp H
    obtain ⟨⟨t440, t441⟩, A160, H⟩ := H
    replace H : (if t440 < 0 then (laws_FnExactPreferred.j0 k t423 t431 true a0_0 l0_1) else ((laws_eqIntSS.f k t431 t423).bind fun t442 => (laws_FnExactPreferred.j0 k t423 t431 (!t442) a0_0 l0_1))) = some r := H
    have A16 := Aside0.mk A160
    clear A160
    have HC17 := Aside0.mk H
    clear H
    go_enter Try.func4, Try.ntmps4
    try go_wp2_with (first | ((with_reducible refine Zy (N := 1) rfl ?_); refine Zz ?hg (N := 1) ?hd (cs := #[.int .i64 a0_0, .slice A0_1 l0_1.length c0_1]) (t := 24) ?hr ?_; (case hd => rfl); (case hg => rfl); (case hr => first | (go_simp; done) | (go_simp; rfl)); intro gb417 hg w18 hbox hb; have n0_ := Aside0.mk (Zf hb_ hb); have n1_ := Aside0.mk (hbox); have n2_ := Aside0.mk ((hz_ hg : w.heap.size ≤ gb417)); have n3_ := Aside0.mk ((hz_ hg : w.heap.size ≤ gb417)); clear HB; have HB := n0_; have BK417 := n1_; have GW417 := n2_; have GE417 := n3_; clear n0_ n1_ n2_ n3_; clear hb hbox hg; have hcz19_0 : w18.cell? ⟨gb417, 0, none⟩ = some (.int .i64 a0_0) := (Ze BK417.out 0).trans rfl; have hcz19_1 : w18.cell? ⟨gb417, 1, none⟩ = some (.slice A0_1 l0_1.length c0_1) := (Ze BK417.out 1).trans rfl; have hfz19_0 := Zd BK417.out 0; have hfz19_1 := Zd BK417.out 1) | ((with_reducible refine Zg (f := 13) rfl ?_); refine Zw (some 13) rfl rfl Try.func13 (by kernel_rfl) rfl #[.agg #[.int .i64 a0_0, .slice A0_1 l0_1.length c0_1], .int .i64 1048576] rfl ar_ ?_; (with_reducible refine (laws_szGraph.calls k a0_0 _ _ l0_1 1048576 t418 _ ?side1 ?side2 A2.out).mono ?_); (case side1 => exact cb_ HR0_1.out); (case side2 => exact HC0_1.out); rintro e w20 ⟨rfl, hb⟩; refine ⟨_, rfl, ?_⟩; have n0_ := Aside0.mk (Zj (g := gb417) (o := .cells #[.int .i64 a0_0, .slice A0_1 l0_1.length c0_1] 24 (0, 0)) (bk_ BK417.out) hb); have n1_ := Aside0.mk (Zf hb_ hb); clear BK417; clear HB; have BK417 := n0_; have HB := n1_; clear n0_ n1_; (try clear hb); (try clear hb2); (try clear hk); (try clear hi); have hcz21_0 : w20.cell? ⟨gb417, 0, none⟩ = some (.int .i64 a0_0) := (Ze BK417.out 0).trans rfl; have hcz21_1 : w20.cell? ⟨gb417, 1, none⟩ = some (.slice A0_1 l0_1.length c0_1) := (Ze BK417.out 1).trans rfl; have hfz21_0 := Zd BK417.out 0; have hfz21_1 := Zd BK417.out 1) | ((with_reducible refine Zg (f := 15) rfl ?_); refine Zw (some 17) rfl rfl Try.func15 (by kernel_rfl) rfl #[.agg #[.int .i64 a0_0, .slice A0_1 l0_1.length c0_1]] rfl ar_ ?_; (with_reducible refine (laws_toGraph.calls k a0_0 _ _ l0_1 t419 t420 _ ?side1 ?side2 A7.out).mono ?_); (case side1 => exact cb_ HR0_1.out); (case side2 => exact HC0_1.out); rintro e w22 ⟨v421, rfl, ho0, hb⟩; refine ⟨_, rfl, ?_⟩; obtain ⟨nsp_HO422, hnsp_HO422, ho0⟩ := S_newSp ho0; have n0_ := Aside0.mk (Kd.S_lower ho0 (Zk hb_)); have n1_ := Aside0.mk (Zj (g := gb417) (o := .cells #[.int .i64 a0_0, .slice A0_1 l0_1.length c0_1] 24 (0, 0)) (bk_ BK417.out) hb); have n2_ := Aside0.mk (Zf hb_ hb); clear BK417; clear HB; have HO422 := n0_; have BK417 := n1_; have HB := n2_; clear n0_ n1_ n2_; (try clear hb); (try clear hb2); (try clear hk); (try clear hi); (try clear ho0); obtain ⟨Ao23, co23, eo23⟩ := Kd.S_slice HO422.out; subst eo23) | ((with_reducible refine Zg (f := 18) rfl ?_); refine Zw (some 18) rfl rfl Try.func18 (by kernel_rfl) rfl #[.agg #[.int .i64 t419, .slice Ao23 t420.length co23]] rfl ar_ ?_; (with_reducible refine (spec_Preferred.calls k t419 _ _ t420 t423 _ ?side1 ?side2 A8.out).mono ?_); (case side1 => repeat (first | exact (Zq HO422.out).2.2 | (with_reducible refine Zs ?_ _) | (with_reducible refine Zr ?_ _) | (with_reducible refine Zt ?_))); (case side2 => exact (Zq HO422.out).2.1); rintro e w24 ⟨v424, rfl, ho0, hb⟩; refine ⟨_, rfl, ?_⟩; have n0_ := Aside0.mk (ZH (rS_ HO422.out) (Kd.N_base ho0) hb); have n1_ := Aside0.mk (Kd.N_lower (Zx (ok' := fun k_ => some k_ ≠ (.slice Ao23 t420.length co23 : Value).ownBlock ∧ k_ ≠ gb417) ho0 (fun k_ hk_ => ⟨(Kd.fresh' (Kd.S_lt (rS_ HO422.out)) k_ hk_), (Kd.freshB (g := gb417) (o := .cells #[.int .i64 a0_0, .slice A0_1 l0_1.length c0_1] 24 (0, 0)) (bk_ BK417.out) k_ hk_)⟩)) (Zk hb_)); have n2_ := Aside0.mk (Zj (g := gb417) (o := .cells #[.int .i64 a0_0, .slice A0_1 l0_1.length c0_1] 24 (0, 0)) (bk_ BK417.out) hb); have n3_ := Aside0.mk (Zf hb_ hb); clear HO422; clear BK417; clear HB; have HO422 := n0_; have HO425 := n1_; have BK417 := n2_; have HB := n3_; clear n0_ n1_ n2_ n3_; (try clear hb); (try clear hb2); (try clear hk); (try clear hi); (try clear ho0); have hcz25_0 : w24.cell? ⟨gb417, 0, none⟩ = some (.int .i64 a0_0) := (Ze BK417.out 0).trans rfl; have hcz25_1 : w24.cell? ⟨gb417, 1, none⟩ = some (.slice A0_1 l0_1.length c0_1) := (Ze BK417.out 1).trans rfl; have hfz25_0 := Zd BK417.out 0; have hfz25_1 := Zd BK417.out 1) | ((with_reducible refine Zg (f := 15) rfl ?_); refine Zw (some 20) rfl rfl Try.func15 (by kernel_rfl) rfl #[.agg #[.int .i64 a0_0, .slice A0_1 l0_1.length c0_1]] rfl ar_ ?_; (with_reducible refine (laws_toGraph.calls k a0_0 _ _ l0_1 t426 t427 _ ?side1 ?side2 A9.out).mono ?_); (case side1 => exact cb_ HR0_1.out); (case side2 => exact HC0_1.out); rintro e w26 ⟨v428, rfl, ho0, hb⟩; refine ⟨_, rfl, ?_⟩; obtain ⟨nsp_HO429, hnsp_HO429, ho0⟩ := S_newSp ho0; have n0_ := Aside0.mk (ZH ((S_oldSp (rS_ HO422.out) hnsp_HO429)) (ZG ho0) hb); have n1_ := Aside0.mk (Kd.N_elder' ((N_oldSp (rN_ HO425.out) hnsp_HO429)) (ZG ho0) hb); have n2_ := Aside0.mk (Kd.S_lower (ZF (ZF ho0 (Kd.S_lt (rS_ HO422.out))) (Kd.N_lt (rN_ HO425.out))) (Zk hb_)); have n3_ := Aside0.mk (Zj (g := gb417) (o := .cells #[.int .i64 a0_0, .slice A0_1 l0_1.length c0_1] 24 (0, 0)) (bk_ BK417.out) hb); have n4_ := Aside0.mk (Zf hb_ hb); clear HO422; clear HO425; clear BK417; clear HB; have HO422 := n0_; have HO425 := n1_; have HO429 := n2_; have BK417 := n3_; have HB := n4_; clear n0_ n1_ n2_ n3_ n4_; (try clear hb); (try clear hb2); (try clear hk); (try clear hi); (try clear ho0)) | ((with_reducible refine Zy (N := 5) rfl ?_); refine Zz ?hg (N := 5) ?hd (cs := #[.int .i64 0, .slice none 0 0]) (t := 27) ?hr ?_; (case hd => rfl); (case hg => rfl); (case hr => first | (go_simp; done) | (go_simp; rfl)); intro gb430 hg w27 hbox hb; have n0_ := Aside0.mk (Kd.S_below (rS_ HO422.out) hb); have n1_ := Aside0.mk (Kd.N_below (Kd.N_elderB (rN_ HO425.out) gb430 (Nat.le_of_eq hg.symm)) hb); have n2_ := Aside0.mk (Kd.S_below (rS_ HO429.out) hb); have n3_ := Aside0.mk (Zj (g := gb417) (o := .cells #[.int .i64 a0_0, .slice A0_1 l0_1.length c0_1] 24 (0, 0)) (bk_ BK417.out) hb); have n4_ := Aside0.mk (Zf hb_ hb); have n5_ := Aside0.mk (hbox); have n6_ := Aside0.mk ((hz_ hg : w.heap.size ≤ gb430)); have n7_ := Aside0.mk ((hz_ hg : w.heap.size ≤ gb430)); have n8_ := Aside0.mk ((by rw [hg]; exact Nat.ne_of_lt (blk_lt (g := gb417) (o := .cells #[.int .i64 a0_0, .slice A0_1 l0_1.length c0_1] 24 (0, 0)) (bk_ BK417.out)) : gb417 ≠ gb430)); have n9_ := Aside0.mk ((by rw [hg]; exact Nat.ne_of_gt (blk_lt (g := gb417) (o := .cells #[.int .i64 a0_0, .slice A0_1 l0_1.length c0_1] 24 (0, 0)) (bk_ BK417.out)) : gb430 ≠ gb417)); clear HO422; clear HO425; clear HO429; clear BK417; clear HB; have HO422 := n0_; have HO425 := n1_; have HO429 := n2_; have BK417 := n3_; have HB := n4_; have BK430 := n5_; have GW430 := n6_; have GE430 := n7_; have NB417_430 := n8_; have NB430_417 := n9_; clear n0_ n1_ n2_ n3_ n4_ n5_ n6_ n7_ n8_ n9_; clear hb hbox hg; have hnb28 := NB430_417.out; have hnc28 := NB417_430.out; have hcz29_0 : w27.cell? ⟨gb430, 0, none⟩ = some (.int .i64 0) := (Ze BK430.out 0).trans rfl; have hcz29_1 : w27.cell? ⟨gb430, 1, none⟩ = some (.slice none 0 0) := (Ze BK430.out 1).trans rfl; have hfz29_0 := Zd BK430.out 0; have hfz29_1 := Zd BK430.out 1; obtain ⟨Ao30, co30, eo30⟩ := Kd.S_slice HO429.out; subst eo30) | ((with_reducible refine Zg (f := 19) rfl ?_); refine Zw (some 22) rfl rfl Try.func19 (by kernel_rfl) rfl #[.agg #[.int .i64 t426, .slice Ao30 t427.length co30]] rfl ar_ ?_; (with_reducible refine (impl_Preferred.calls k t426 _ _ t427 t431 _ ?side1 ?side2 A10.out).mono ?_); (case side1 => exact (S_readsSp (e := 38) (base := w.heap.size) (ok := fun k_ => ((True ∧ some k_ ≠ (.slice Ao23 t420.length co23 : Value).ownBlock) ∧ some k_ ≠ (v424 : Value).ownBlock)) (n := t427.length) (c := co30) (by (with_reducible repeat (first | apply Kd.S_alloc | apply Kd.S_drewN | apply Kd.S_drew)); exact (ZJ (Kd.S_far (p := ⟨gb430, 1, none⟩) (Kd.S_far (p := ⟨gb430, 0, none⟩) (Kd.S_types HO429.out BK430.out (by first | decide | exact spE_ (by decide))) (fun _ hk => hk.2) (.int .i64 t426)) (fun _ hk => hk.2) (.slice Ao30 t427.length co30)) (fun _ h_ => h_.1)))).2.2); (case side2 => exact (Zq HO429.out).2.1); rintro e w31 ⟨v432, rfl, ho0, hb⟩; refine ⟨_, rfl, ?_⟩; obtain ⟨nsp_HO433, hnsp_HO433, ho0⟩ := S_newSp ho0; have n0_ := Aside0.mk (ZH ((S_oldSp (by (with_reducible repeat (first | apply Kd.S_alloc | apply Kd.S_drewN | apply Kd.S_drew)); exact (ZJ (Kd.S_far (p := ⟨gb430, 1, none⟩) (Kd.S_far (p := ⟨gb430, 0, none⟩) (Kd.S_types HO422.out BK430.out (by first | decide | exact spE_ (by decide))) (fun _ hk => hk.2) (.int .i64 t426)) (fun _ hk => hk.2) (.slice Ao30 t427.length co30)) (fun _ h_ => h_.1))) hnsp_HO433)) (ZG ho0) hb); have n1_ := Aside0.mk (Kd.N_elder' ((N_oldSp (by (with_reducible repeat (first | apply ZB | apply ZA | apply ZC)); exact (Zx (Kd.N_far (p := ⟨gb430, 1, none⟩) (Kd.N_far (p := ⟨gb430, 0, none⟩) (Zx HO425.out (fun k_ hk => (⟨hk, hk.2⟩ : _ ∧ k_ ≠ gb430))) (fun _ hk => hk.2) (.int .i64 t426)) (fun _ hk => hk.2) (.slice Ao30 t427.length co30)) (fun _ h_ => h_.1))) hnsp_HO433)) (ZG ho0) hb); have n2_ := Aside0.mk (ZH ((S_oldSp (by (with_reducible repeat (first | apply Kd.S_alloc | apply Kd.S_drewN | apply Kd.S_drew)); exact (ZJ (Kd.S_far (p := ⟨gb430, 1, none⟩) (Kd.S_far (p := ⟨gb430, 0, none⟩) (Kd.S_types HO429.out BK430.out (by first | decide | exact spE_ (by decide))) (fun _ hk => hk.2) (.int .i64 t426)) (fun _ hk => hk.2) (.slice Ao30 t427.length co30)) (fun _ h_ => h_.1))) hnsp_HO433)) (ZG ho0) hb); have n3_ := Aside0.mk (Kd.S_lower (ZF (ZF (ZF ho0 (Kd.S_lt (by (with_reducible repeat (first | apply Kd.S_alloc | apply Kd.S_drewN | apply Kd.S_drew)); exact (ZJ (Kd.S_far (p := ⟨gb430, 1, none⟩) (Kd.S_far (p := ⟨gb430, 0, none⟩) (Kd.S_types HO422.out BK430.out (by first | decide | exact spE_ (by decide))) (fun _ hk => hk.2) (.int .i64 t426)) (fun _ hk => hk.2) (.slice Ao30 t427.length co30)) (fun _ h_ => h_.1))))) (Kd.N_lt (by (with_reducible repeat (first | apply ZB | apply ZA | apply ZC)); exact (Zx (Kd.N_far (p := ⟨gb430, 1, none⟩) (Kd.N_far (p := ⟨gb430, 0, none⟩) (Zx HO425.out (fun k_ hk => (⟨hk, hk.2⟩ : _ ∧ k_ ≠ gb430))) (fun _ hk => hk.2) (.int .i64 t426)) (fun _ hk => hk.2) (.slice Ao30 t427.length co30)) (fun _ h_ => h_.1))))) (Kd.S_lt (by (with_reducible repeat (first | apply Kd.S_alloc | apply Kd.S_drewN | apply Kd.S_drew)); exact (ZJ (Kd.S_far (p := ⟨gb430, 1, none⟩) (Kd.S_far (p := ⟨gb430, 0, none⟩) (Kd.S_types HO429.out BK430.out (by first | decide | exact spE_ (by decide))) (fun _ hk => hk.2) (.int .i64 t426)) (fun _ hk => hk.2) (.slice Ao30 t427.length co30)) (fun _ h_ => h_.1))))) (Zk hb_)); have n4_ := Aside0.mk (Zj (g := gb417) (o := .cells #[.int .i64 a0_0, .slice A0_1 l0_1.length c0_1] 24 (0, 0)) (by (with_reducible repeat (first | refine blk_drewN ?_ _ | refine blk_drew ?_ | refine blk_alloc ?_ _)); refine blk_far ?_ NB417_430.out _; (with_reducible repeat (first | refine blk_drewN ?_ _ | refine blk_drew ?_ | refine blk_alloc ?_ _)); refine blk_far ?_ NB417_430.out _; (with_reducible repeat (first | refine blk_drewN ?_ _ | refine blk_drew ?_ | refine blk_alloc ?_ _)); exact BK417.out) hb); have n5_ := Aside0.mk (Zj (g := gb430) (o := .cells #[.int .i64 t426, .slice Ao30 t427.length co30] 27 (0, 0)) (by (with_reducible repeat (first | refine blk_drewN ?_ _ | refine blk_drew ?_ | refine blk_alloc ?_ _)); refine blk_put (cs := #[.int .i64 t426, .slice none 0 0]) ?_ 1 _ rfl; (with_reducible repeat (first | refine blk_drewN ?_ _ | refine blk_drew ?_ | refine blk_alloc ?_ _)); refine blk_put (cs := #[.int .i64 0, .slice none 0 0]) ?_ 0 _ rfl; (with_reducible repeat (first | refine blk_drewN ?_ _ | refine blk_drew ?_ | refine blk_alloc ?_ _)); exact BK430.out) hb); have n6_ := Aside0.mk (Zf hb_ hb); clear HO422; clear HO425; clear HO429; clear BK417; clear BK430; clear HB; have HO422 := n0_; have HO425 := n1_; have HO429 := n2_; have HO433 := n3_; have BK417 := n4_; have BK430 := n5_; have HB := n6_; clear n0_ n1_ n2_ n3_ n4_ n5_ n6_; (try clear hb); (try clear hb2); (try clear hk); (try clear hi); (try clear ho0); obtain ⟨Ao32, co32, eo32⟩ := Kd.S_slice HO433.out; subst eo32; obtain ⟨Ao33, co33, eo33⟩ := Kd.N_slice HO425.out; subst eo33) | ((with_reducible refine Zg (f := 20) rfl ?_); refine Zw (some 25) rfl rfl Try.func20 (by kernel_rfl) rfl #[.slice Ao32 t431.length co32, .slice Ao33 t423.length co33] rfl ar_ ?_; (with_reducible refine (laws_eqIntSS.calls k _ _ t431 _ _ t423 true _ ?side1 ?side2 ?side3 ?side4 A11.out).mono ?_); (case side1 => repeat (first | exact (Zq HO433.out).2.2 | (with_reducible refine Zs ?_ _) | (with_reducible refine Zr ?_ _) | (with_reducible refine Zt ?_))); (case side2 => exact (Zq HO433.out).2.1); (case side3 => repeat (first | exact (Kd.N_reads' HO425.out).2.2 | (with_reducible refine Zs ?_ _) | (with_reducible refine Zr ?_ _) | (with_reducible refine Zt ?_))); (case side4 => exact (Kd.N_reads' HO425.out).2.1); rintro e w' ⟨rfl, ⟨nd, rfl⟩⟩; refine ⟨_, rfl, ?_⟩))
    (try (rw [drewN_self w31]; generalize hq_ : World.drewN w31 _ = w31; have n0_ : Aside0 (Kd.S (KSp (fun k_ => ((nsp_HO422 ≤ k_) ∧ k_ < nsp_HO429) ∧ k_ < nsp_HO433) (Kd.slice 3 (Kd.int .i64))) 38 w31 w.heap.size (fun k_ => some k_ ≠ (.slice Ao33 t423.length co33 : Value).ownBlock ∧ some k_ ≠ (.slice Ao30 t427.length co30 : Value).ownBlock ∧ some k_ ≠ (.slice Ao32 t431.length co32 : Value).ownBlock) (.slice Ao23 t420.length co23) t420) := ⟨by rw [← hq_]; exact (by (with_reducible repeat (first | apply Kd.S_alloc | apply Kd.S_drewN | apply Kd.S_drew)); exact ZJ HO422.out (fun _ hk => ⟨hk.1.1.2, ⟨hk.1.2, hk.2⟩⟩))⟩; have n1_ : Aside0 (Kd.N (Kd.slice 3 (Kd.int .i64)) 38 w31 w.heap.size (fun k_ => some k_ ≠ (.slice Ao23 t420.length co23 : Value).ownBlock ∧ some k_ ≠ (.slice Ao30 t427.length co30 : Value).ownBlock ∧ some k_ ≠ (.slice Ao32 t431.length co32 : Value).ownBlock ∧ k_ ≠ gb417 ∧ k_ ≠ gb430 ∧ k_ < nsp_HO429 ∧ k_ < nsp_HO433) (.slice Ao33 t423.length co33) t423) := ⟨by rw [← hq_]; exact (by (with_reducible repeat (first | apply ZB | apply ZA | apply ZC)); exact Zx HO425.out (fun _ hk => ⟨hk.1.1.1.1.1.1, ⟨hk.1.1.1.2, ⟨hk.2, ⟨hk.1.1.1.1.1.2, ⟨hk.1.1.2, ⟨hk.1.1.1.1.2, hk.1.2⟩⟩⟩⟩⟩⟩))⟩; have n2_ : Aside0 (Kd.S (KSp (fun k_ => (nsp_HO429 ≤ k_) ∧ k_ < nsp_HO433) (Kd.slice 3 (Kd.int .i64))) 38 w31 w.heap.size (fun k_ => some k_ ≠ (.slice Ao23 t420.length co23 : Value).ownBlock ∧ some k_ ≠ (.slice Ao33 t423.length co33 : Value).ownBlock ∧ some k_ ≠ (.slice Ao32 t431.length co32 : Value).ownBlock) (.slice Ao30 t427.length co30) t427) := ⟨by rw [← hq_]; exact (by (with_reducible repeat (first | apply Kd.S_alloc | apply Kd.S_drewN | apply Kd.S_drew)); exact ZJ HO429.out (fun _ hk => ⟨hk.1.1.2, ⟨hk.1.2, hk.2⟩⟩))⟩; have n3_ : Aside0 (Kd.S (KSp (fun k_ => nsp_HO433 ≤ k_) (Kd.slice 3 (Kd.int .i64))) 38 w31 w.heap.size (fun k_ => some k_ ≠ (.slice Ao23 t420.length co23 : Value).ownBlock ∧ some k_ ≠ (.slice Ao33 t423.length co33 : Value).ownBlock ∧ some k_ ≠ (.slice Ao30 t427.length co30 : Value).ownBlock) (.slice Ao32 t431.length co32) t431) := ⟨by rw [← hq_]; exact (by (with_reducible repeat (first | apply Kd.S_alloc | apply Kd.S_drewN | apply Kd.S_drew)); exact ZJ HO433.out (fun _ hk => ⟨hk.1.1.2, ⟨hk.1.2, hk.2⟩⟩))⟩; have n4_ : Aside0 (w31.heap[gb417]? = some (.cells #[.int .i64 a0_0, .slice A0_1 l0_1.length c0_1] 24 (0, 0))) := ⟨by rw [← hq_]; exact (bk_ BK417.out)⟩; have n5_ : Aside0 (w31.heap[gb430]? = some (.cells #[.int .i64 t426, .slice Ao30 t427.length co30] 27 (0, 0))) := ⟨by rw [← hq_]; exact (bk_ BK430.out)⟩; have n6_ : Aside0 (Below w.heap.size w w31) := ⟨by rw [← hq_]; exact hb_⟩; clear HO422 HO425 HO429 HO433 BK417 BK430 HB hq_; have HO422 := n0_; have HO425 := n1_; have HO429 := n2_; have HO433 := n3_; have BK417 := n4_; have BK430 := n5_; have HB := n6_; clear n0_ n1_ n2_ n3_ n4_ n5_ n6_))
    (try (have hcugb417_0 : w31.cell? ⟨gb417, 0, none⟩ = some (.int .i64 a0_0) := (Ze BK417.out 0).trans rfl))
    (try (have hfugb417_0 := Zd BK417.out 0))
    (try (have hcugb417_1 : w31.cell? ⟨gb417, 1, none⟩ = some (.slice A0_1 l0_1.length c0_1) := (Ze BK417.out 1).trans rfl))
    (try (have hfugb417_1 := Zd BK417.out 1))
    (try (have hcugb430_0 : w31.cell? ⟨gb430, 0, none⟩ = some (.int .i64 t426) := (Ze BK430.out 0).trans rfl))
    (try (have hfugb430_0 := Zd BK430.out 0))
    (try (have hcugb430_1 : w31.cell? ⟨gb430, 1, none⟩ = some (.slice Ao30 t427.length co30) := (Ze BK430.out 1).trans rfl))
    (try (have hfugb430_1 := Zd BK430.out 1))
    have n0_ := Aside0.mk (Kd.S_drew HO422.out)
    have n1_ := Aside0.mk (ZC HO425.out)
    have n2_ := Aside0.mk (Kd.S_drew HO429.out)
    have n3_ := Aside0.mk (Kd.S_drew HO433.out)
    have n4_ := Aside0.mk (blk_drew BK417.out)
    have n5_ := Aside0.mk (blk_drew BK430.out)
    have n6_ := Aside0.mk (below_drew1 HB.out)
    clear HO422
    clear HO425
    clear HO429
    clear HO433
    clear BK417
    clear BK430
    clear HB
    have HO422 := n0_
    have HO425 := n1_
    have HO429 := n2_
    have HO433 := n3_
    have BK417 := n4_
    have BK430 := n5_
    have HB := n6_
    clear n0_ n1_ n2_ n3_ n4_ n5_ n6_
    refine start_ (n := 5) (S := fun w' => w'.cell? ⟨gb430, 0, none⟩ = some (.int .i64 t426) ∧ w'.cell? ⟨gb430, 1, none⟩ = some (.slice Ao30 t427.length co30) ∧ w'.cell? ⟨gb417, 0, none⟩ = some (.int .i64 a0_0) ∧ w'.cell? ⟨gb417, 1, none⟩ = some (.slice A0_1 l0_1.length c0_1)) (ds := []) #[O,O,O,O,O] (by kernel_rfl) rfl rfl ⟨(Ze BK430.out 0).trans rfl, (Ze BK430.out 1).trans rfl, (Ze BK417.out 0).trans rfl, (Ze BK417.out 1).trans rfl⟩ (fun hHeld => ?_)
    generalize w31.drew = w34 at HO422 HO425 HO429 HO433 BK417 BK430 HB hHeld ⊢
    refine take_ (i := 0) (N := some 27) (v := ?_) (a' := ?_) #[Y,O,O,O,O] rfl rfl (by kernel_rfl) (fun _ _ _ h => h) (Or.inl ⟨by rfl, ?_⟩) hHeld ?_ ?_
    rotate_left
    ·rintro w' ⟨s0, s1, s2, s3⟩
     go_simp
     with_reducible rfl
    rotate_left
    ·simp only [Act.put, Za, Zb, Zc, Zl, Zm]
     rfl
    refine take_ (i := 1) (N := some 28) (v := ?_) (a' := ?_) #[Y,Y,O,O,O] rfl rfl (by kernel_rfl) (fun _ _ _ h => h) (Or.inl ⟨by rfl, ?_⟩) hHeld ?_ ?_
    rotate_left
    ·rintro w' ⟨s0, s1, s2, s3⟩
     go_simp
     with_reducible rfl
    rotate_left
    ·simp only [Act.put, Za, Zb, Zc, Zl, Zm]
     rfl
    refine one_ (i := 2) (N := some 29) #[Y,Y,Y,O,O] rfl rfl (by kernel_rfl) (by first | decide | exact spE_ (by decide)) (fun K hK => ?_)
    refine goes_ Try.func15 (by kernel_rfl) rfl #[.agg #[.int .i64 a0_0, .slice A0_1 l0_1.length c0_1]] (by rfl) rfl rfl ar_ ?_
    with_reducible refine (laws_toGraph.calls k a0_0 _ _ l0_1 t435 t436 _ ?side1 ?side2 A13.out).mono ?_
    (case side1 => exact cb_ HR0_1.out)
    (case side2 => exact HC0_1.out)
    rintro e w35 ⟨v437, rfl, ho0, hb⟩
    refine ⟨_, rfl, ?_⟩
    obtain ⟨nsp_HO438, hnsp_HO438, ho0⟩ := S_newSp ho0
    have n0_ := Aside0.mk (ZH ((S_oldSp (rS_ HO422.out) hnsp_HO438)) (ZG ho0) hb)
    have n1_ := Aside0.mk (Kd.N_elder' ((N_oldSp (rN_ HO425.out) hnsp_HO438)) (ZG ho0) hb)
    have n2_ := Aside0.mk (ZH ((S_oldSp (rS_ HO429.out) hnsp_HO438)) (ZG ho0) hb)
    have n3_ := Aside0.mk (ZH ((S_oldSp (rS_ HO433.out) hnsp_HO438)) (ZG ho0) hb)
    have n4_ := Aside0.mk (Kd.S_lower (ZF (ZF (ZF (ZF ho0 (Kd.S_lt (rS_ HO422.out))) (Kd.N_lt (rN_ HO425.out))) (Kd.S_lt (rS_ HO429.out))) (Kd.S_lt (rS_ HO433.out))) (Zk hb_))
    have n5_ := Aside0.mk (Zj (g := gb417) (o := .cells #[.int .i64 a0_0, .slice A0_1 l0_1.length c0_1] 24 (0, 0)) (bk_ BK417.out) hb)
    have n6_ := Aside0.mk (Zj (g := gb430) (o := .cells #[.int .i64 t426, .slice Ao30 t427.length co30] 27 (0, 0)) (bk_ BK430.out) hb)
    have n7_ := Aside0.mk (Zf hb_ hb)
    clear HO422
    clear HO425
    clear HO429
    clear HO433
    clear BK417
    clear BK430
    clear HB
    have HO422 := n0_
    have HO425 := n1_
    have HO429 := n2_
    have HO433 := n3_
    have HO438 := n4_
    have BK417 := n5_
    have BK430 := n6_
    have HB := n7_
    clear n0_ n1_ n2_ n3_ n4_ n5_ n6_ n7_
    (try clear hb)
    (try clear hb2)
    (try clear hk)
    (try clear hi)
    (try clear ho0)
    obtain ⟨Ao36, co36, eo36⟩ := Kd.S_slice HO438.out
    (first | subst eo36 | (injection eo36 with f1_ f2_ f3_; have f4_ := f1_.symm; have f5_ := f3_.symm; clear f1_ f2_ f3_; subst f4_; subst f5_))
    refine hK.out _ _ ⟨(Ze BK430.out 0).trans rfl, (Ze BK430.out 1).trans rfl, (Ze BK417.out 0).trans rfl, (Ze BK417.out 1).trans rfl⟩ (fun hHeld => ?_)
    clear hK K
    refine norm_ (a' := ?_) ?_ ?_
    rotate_left
    ·show Act.put _ (some 29) _ = _
     simp only [Act.put, Za, Zb, Zc, Zl, Zm]
     rfl
    refine one_ (i := 3) (N := some 30) #[Y,Y,Y,Y,O] rfl rfl (by kernel_rfl) (by first | decide | exact spE_ (by decide)) (fun K hK => ?_)
    refine goes_ Try.func17 (by kernel_rfl) rfl #[.agg #[.int .i64 t426, .slice Ao30 t427.length co30], .agg #[.int .i64 t435, .slice Ao36 t436.length co36]] (by rfl) rfl rfl ar_ ?_
    with_reducible refine (laws_eqGraph.calls k t426 _ _ t427 t435 _ _ t436 true _ ?side1 ?side2 ?side3 ?side4 A14.out).mono ?_
    (case side1 => repeat (first | exact (Zq HO429.out).2.2 | (with_reducible refine Zs ?_ _) | (with_reducible refine Zr ?_ _) | (with_reducible refine Zt ?_)))
    (case side2 => exact (Zq HO429.out).2.1)
    (case side3 => repeat (first | exact (Zq HO438.out).2.2 | (with_reducible refine Zs ?_ _) | (with_reducible refine Zr ?_ _) | (with_reducible refine Zt ?_)))
    (case side4 => exact (Zq HO438.out).2.1)
    rintro e w37 ⟨rfl, hb⟩
    refine ⟨_, rfl, ?_⟩
    have n0_ := Aside0.mk (Kd.S_below (rS_ HO422.out) hb)
    have n1_ := Aside0.mk (Kd.N_below (rN_ HO425.out) hb)
    have n2_ := Aside0.mk (Kd.S_below (rS_ HO429.out) hb)
    have n3_ := Aside0.mk (Kd.S_below (rS_ HO433.out) hb)
    have n4_ := Aside0.mk (Kd.S_below (rS_ HO438.out) hb)
    have n5_ := Aside0.mk (Zj (g := gb417) (o := .cells #[.int .i64 a0_0, .slice A0_1 l0_1.length c0_1] 24 (0, 0)) (bk_ BK417.out) hb)
    have n6_ := Aside0.mk (Zj (g := gb430) (o := .cells #[.int .i64 t426, .slice Ao30 t427.length co30] 27 (0, 0)) (bk_ BK430.out) hb)
    have n7_ := Aside0.mk (Zf hb_ hb)
    clear HO422
    clear HO425
    clear HO429
    clear HO433
    clear HO438
    clear BK417
    clear BK430
    clear HB
    have HO422 := n0_
    have HO425 := n1_
    have HO429 := n2_
    have HO433 := n3_
    have HO438 := n4_
    have BK417 := n5_
    have BK430 := n6_
    have HB := n7_
    clear n0_ n1_ n2_ n3_ n4_ n5_ n6_ n7_
    (try clear hb)
    (try clear hb2)
    (try clear hk)
    (try clear hi)
    refine hK.out _ _ ⟨(Ze BK430.out 0).trans rfl, (Ze BK430.out 1).trans rfl, (Ze BK417.out 0).trans rfl, (Ze BK417.out 1).trans rfl⟩ (fun hHeld => ?_)
    clear hK K
    refine norm_ (a' := ?_) ?_ ?_
    rotate_left
    ·show Act.put _ (some 30) _ = _
     simp only [Act.put, Za, Zb, Zc, Zl, Zm]
     rfl
    refine Zu (i := 4) (N := some 31) (v := ?_) (a' := ?_) #[Y,Y,Y,Y,Y] rfl rfl (by kernel_rfl) (fun _ _ _ h => h) (Or.inl ⟨by rfl, ?_⟩) ?_ ?_
    rotate_left
    ·intro w'
     go_simp
     with_reducible rfl
    rotate_left
    ·simp only [Act.put, Za, Zb, Zc, Zl, Zm]
     rfl
    refine done_ (by kernel_rfl) ?_
    have hcz38_0 : w37.cell? ⟨gb430, 0, none⟩ = some (.int .i64 t426) := (Ze BK430.out 0).trans rfl
    have hcz38_1 : w37.cell? ⟨gb430, 1, none⟩ = some (.slice Ao30 t427.length co30) := (Ze BK430.out 1).trans rfl
    have hfz38_0 := Zd BK430.out 0
    have hfz38_1 := Zd BK430.out 1
    go_upto_region 14 with (first | ((with_reducible refine Zg (f := 21) rfl ?_); refine Zw (some 34) rfl rfl Try.func21 (by kernel_rfl) rfl #[.agg #[.int .i64 t426, .slice Ao30 t427.length co30], .int .i64 1] rfl ar_ ?_; (with_reducible refine (laws_markGraph.calls k t426 (fun W_ => SpOf (Kd.slice 3 (Kd.int .i64)) (fun k_ => ((nsp_HO429 ≤ k_) ∧ k_ < nsp_HO433) ∧ k_ < nsp_HO438) W_ (fun k_ => ((((True ∧ some k_ ≠ (.slice Ao23 t420.length co23 : Value).ownBlock) ∧ some k_ ≠ (.slice Ao33 t423.length co33 : Value).ownBlock) ∧ some k_ ≠ (.slice Ao32 t431.length co32 : Value).ownBlock) ∧ some k_ ≠ (.slice Ao36 t436.length co36 : Value).ownBlock)) (.slice Ao30 t427.length co30)) (.slice Ao30 t427.length co30) t427 1 t440 t441 w _ ?side1 ?side2 A16.out).mono ?_); (case side1 => repeat (first | (with_reducible first | exact HB.out | apply below_alloc | apply pw_below_drewN | apply below_drew1 | refine below_set ?_ GE417.out | refine below_set ?_ GE430.out) | exact HB.out)); (case side2 => exact (S_ofSp (ZJ (ok' := fun k_ => ((((True ∧ some k_ ≠ (.slice Ao23 t420.length co23 : Value).ownBlock) ∧ some k_ ≠ (.slice Ao33 t423.length co33 : Value).ownBlock) ∧ some k_ ≠ (.slice Ao32 t431.length co32 : Value).ownBlock) ∧ some k_ ≠ (.slice Ao36 t436.length co36 : Value).ownBlock)) (HO429.out) (fun k_ hk_ => by have h_ := hk_; (try simp only [true_and, and_assoc] at h_); (try simp only [true_and, and_assoc]); exact h_)))); rintro e w39 ⟨rfl, hy0, hb, hkp⟩; refine ⟨_, rfl, ?_⟩; have n0_ := Aside0.mk (box_keptSp (g := gb417) (cs := #[.int .i64 a0_0, .slice A0_1 l0_1.length c0_1]) (t := 24) (bk_ BK417.out) hkp (by first | decide | exact spE_ (by decide))); have n1_ := Aside0.mk (S_besideSp (ZJ (ok' := fun k_ => ((((True ∧ some k_ ≠ (.slice Ao33 t423.length co33 : Value).ownBlock) ∧ some k_ ≠ (.slice Ao30 t427.length co30 : Value).ownBlock) ∧ some k_ ≠ (.slice Ao32 t431.length co32 : Value).ownBlock) ∧ some k_ ≠ (.slice Ao36 t436.length co36 : Value).ownBlock)) (HO422.out) (fun k_ hk_ => by have h_ := hk_; (try simp only [true_and, and_assoc] at h_); (try simp only [true_and, and_assoc]); exact h_)) hkp (fun k_ ha_ hb_ => by (try dsimp only at ha_ hb_); omega) (by first | decide | exact spE_ (by decide))); have n2_ := Aside0.mk (N_besideSp (Zx (ok' := fun k_ => ((((((((some k_ ≠ (.slice Ao23 t420.length co23 : Value).ownBlock ∧ k_ ≠ gb417) ∧ k_ < nsp_HO429) ∧ some k_ ≠ (.slice Ao30 t427.length co30 : Value).ownBlock) ∧ k_ ≠ gb430) ∧ k_ < nsp_HO433) ∧ some k_ ≠ (.slice Ao32 t431.length co32 : Value).ownBlock) ∧ k_ < nsp_HO438) ∧ some k_ ≠ (.slice Ao36 t436.length co36 : Value).ownBlock)) (HO425.out) (fun k_ hk_ => by have h_ := hk_; (try simp only [true_and, and_assoc] at h_); (try simp only [true_and, and_assoc]); first | exact h_ | ((repeat' apply And.intro) <;> first | exact h_.1 | exact h_.2 | exact h_.2.1 | exact h_.2.2 | exact h_.2.2.1 | exact h_.2.2.2 | exact h_.2.2.2.1 | exact h_.2.2.2.2 | exact h_.2.2.2.2.1 | exact h_.2.2.2.2.2 | exact h_.2.2.2.2.2.1 | exact h_.2.2.2.2.2.2 | exact h_.2.2.2.2.2.2.1 | exact h_.2.2.2.2.2.2.2 | exact h_.2.2.2.2.2.2.2.1 | exact h_.2.2.2.2.2.2.2.2 | exact h_.2.2.2.2.2.2.2.2.1 | exact h_.2.2.2.2.2.2.2.2.2 | exact h_.2.2.2.2.2.2.2.2.2.1 | exact h_.2.2.2.2.2.2.2.2.2.2 | exact h_.2.2.2.2.2.2.2.2.2.2.1 | exact h_.2.2.2.2.2.2.2.2.2.2.2 | exact h_.2.2.2.2.2.2.2.2.2.2.2.1 | exact h_.2.2.2.2.2.2.2.2.2.2.2.2))) hkp (fun k_ ha_ hb_ => by (try dsimp only at ha_ hb_); omega)); have n3_ := Aside0.mk (S_toSp hy0); have n4_ := Aside0.mk (box_keptSp (g := gb430) (cs := #[.int .i64 t426, .slice Ao30 t427.length co30]) (t := 27) (bk_ BK430.out) hkp (by first | decide | exact spE_ (by decide))); have n5_ := Aside0.mk (S_besideSp (ZJ (ok' := fun k_ => ((((True ∧ some k_ ≠ (.slice Ao23 t420.length co23 : Value).ownBlock) ∧ some k_ ≠ (.slice Ao33 t423.length co33 : Value).ownBlock) ∧ some k_ ≠ (.slice Ao30 t427.length co30 : Value).ownBlock) ∧ some k_ ≠ (.slice Ao36 t436.length co36 : Value).ownBlock)) (HO433.out) (fun k_ hk_ => by have h_ := hk_; (try simp only [true_and, and_assoc] at h_); (try simp only [true_and, and_assoc]); exact h_)) hkp (fun k_ ha_ hb_ => by (try dsimp only at ha_ hb_); omega) (by first | decide | exact spE_ (by decide))); have n6_ := Aside0.mk (S_besideSp (ZJ (ok' := fun k_ => ((((True ∧ some k_ ≠ (.slice Ao23 t420.length co23 : Value).ownBlock) ∧ some k_ ≠ (.slice Ao33 t423.length co33 : Value).ownBlock) ∧ some k_ ≠ (.slice Ao30 t427.length co30 : Value).ownBlock) ∧ some k_ ≠ (.slice Ao32 t431.length co32 : Value).ownBlock)) (HO438.out) (fun k_ hk_ => by have h_ := hk_; (try simp only [true_and, and_assoc] at h_); (try simp only [true_and, and_assoc]); exact h_)) hkp (fun k_ ha_ hb_ => by (try dsimp only at ha_ hb_); omega) (by first | decide | exact spE_ (by decide))); have n7_ := Aside0.mk (hb); clear BK417; clear HO422; clear HO425; clear HO429; clear BK430; clear HO433; clear HO438; clear HB; have BK417 := n0_; have HO422 := n1_; have HO425 := n2_; have HO429 := n3_; have BK430 := n4_; have HO433 := n5_; have HO438 := n6_; have HB := n7_; clear n0_ n1_ n2_ n3_ n4_ n5_ n6_ n7_; (try clear hb); (try clear hkp); (try clear hy0)))
    (try simp only [Act.put, Za, Zb, Zc])
    go_cut [42] (fun v42 wc => ∃ (kq : Nat) (x42_16 : Bool), v42 = .bool x42_16 ∧ Aside0 (laws_FnExactPreferred.j0 kq t423 t431 x42_16 a0_0 l0_1 = some r) ∧ Aside0 (kq ≤ k) ∧ Aside0 (Kd.N (Kd.slice 3 (Kd.int .i64)) 38 wc w.heap.size (fun k_ => some k_ ≠ ((.slice Ao32 t431.length co32) : Value).ownBlock ∧ some k_ ≠ ((.slice Ao30 t427.length co30) : Value).ownBlock ∧ k_ ≠ gb417 ∧ k_ ≠ gb430 ∧ k_ < nsp_HO429 ∧ k_ < nsp_HO433 ∧ k_ < nsp_HO438) (.slice Ao33 t423.length co33) t423) ∧ Aside0 (Kd.S (KSp (fun k_ => (nsp_HO433 ≤ k_) ∧ k_ < nsp_HO438) (Kd.slice 3 (Kd.int .i64))) 38 wc w.heap.size (fun k_ => some k_ ≠ ((.slice Ao33 t423.length co33) : Value).ownBlock ∧ some k_ ≠ ((.slice Ao30 t427.length co30) : Value).ownBlock) (.slice Ao32 t431.length co32) t431) ∧ Aside0 (Kd.S (KSp (fun k_ => ((nsp_HO429 ≤ k_) ∧ k_ < nsp_HO433) ∧ k_ < nsp_HO438) (Kd.slice 3 (Kd.int .i64))) 38 wc w.heap.size (fun k_ => some k_ ≠ ((.slice Ao33 t423.length co33) : Value).ownBlock ∧ some k_ ≠ ((.slice Ao32 t431.length co32) : Value).ownBlock) (.slice Ao30 t427.length co30) t441) ∧ Aside0 (wc.heap[gb417]? = some (.cells #[.int .i64 a0_0, (.slice A0_1 l0_1.length c0_1)] 24 (0, 0))) ∧ Aside0 (wc.heap[gb430]? = some (.cells #[.int .i64 t426, (.slice Ao30 t427.length co30)] 27 (0, 0))) ∧ Aside0 (Below w.heap.size w wc))
    case first =>
     have H := HC17.out
     clear HC17
     by_cases c40 : t440 < 0
     ·rw [if_pos c40] at H
      have c40b0 : decide (t440 < 0) = true := decide_eq_true c40
      clear c40
      (first | rw [c40b0] | (simp only [Zl, Zm]; rw [c40b0]) | skip)
      have H' := Aside0.mk H
      clear H
      go_wp2
      go_meet
      case rel => exact ⟨_, (true), sm_, H', ⟨by first | omega | exact Nat.le_refl _⟩, ⟨by (with_reducible repeat (first | apply ZB | apply ZA | apply ZC)); exact Zx HO425.out (fun _ hk => ⟨hk.1.1.2, ⟨hk.1.1.1.1.1.2, ⟨hk.1.1.1.1.1.1.1.2, ⟨hk.1.1.1.1.2, ⟨hk.1.1.1.1.1.1.2, ⟨hk.1.1.1.2, hk.1.2⟩⟩⟩⟩⟩⟩)⟩, ⟨by (with_reducible repeat (first | apply Kd.S_alloc | apply Kd.S_drewN | apply Kd.S_drew)); exact ZJ HO433.out (fun _ hk => ⟨hk.1.1.2, hk.1.2⟩)⟩, ⟨by (with_reducible repeat (first | apply Kd.S_alloc | apply Kd.S_drewN | apply Kd.S_drew)); exact ZJ HO429.out (fun _ hk => ⟨hk.1.1.2, hk.1.2⟩)⟩, ⟨bk_ BK417.out⟩, ⟨bk_ BK430.out⟩, ⟨hb_⟩⟩
     ·rw [if_neg c40] at H
      have c40b0 : decide (t440 < 0) = false := decide_eq_false c40
      clear c40
      (first | rw [c40b0] | (simp only [Zl, Zm]; rw [c40b0]) | skip)
      replace H := Option.bind_eq_some_iff.mp H
      obtain ⟨t442, A410, H⟩ := H
      replace H : (laws_FnExactPreferred.j0 k t423 t431 (!t442) a0_0 l0_1) = some r := H
      have A41 := Aside0.mk A410
      clear A410
      have H' := Aside0.mk H
      clear H
      go_wp2_with (first | (go_at_call 20; (with_reducible refine (laws_eqIntSS.calls k _ _ t431 _ _ t423 t442 _ ?side1 ?side2 ?side3 ?side4 A41.out).mono ?_); (case side1 => repeat (first | exact (Zq HO433.out).2.2 | (with_reducible refine Zs ?_ _) | (with_reducible refine Zr ?_ _) | (with_reducible refine Zt ?_))); (case side2 => exact (Zq HO433.out).2.1); (case side3 => repeat (first | exact (Kd.N_reads' HO425.out).2.2 | (with_reducible refine Zs ?_ _) | (with_reducible refine Zr ?_ _) | (with_reducible refine Zt ?_))); (case side4 => exact (Kd.N_reads' HO425.out).2.1); rintro e w' ⟨rfl, ⟨nd, rfl⟩⟩))
      go_meet
      case rel => exact ⟨_, (!t442), sm_, H', ⟨by first | omega | exact Nat.le_refl _⟩, ⟨by (with_reducible repeat (first | apply ZB | apply ZA | apply ZC)); exact Zx HO425.out (fun _ hk => ⟨hk.1.1.2, ⟨hk.1.1.1.1.1.2, ⟨hk.1.1.1.1.1.1.1.2, ⟨hk.1.1.1.1.2, ⟨hk.1.1.1.1.1.1.2, ⟨hk.1.1.1.2, hk.1.2⟩⟩⟩⟩⟩⟩)⟩, ⟨by (with_reducible repeat (first | apply Kd.S_alloc | apply Kd.S_drewN | apply Kd.S_drew)); exact ZJ HO433.out (fun _ hk => ⟨hk.1.1.2, hk.1.2⟩)⟩, ⟨by (with_reducible repeat (first | apply Kd.S_alloc | apply Kd.S_drewN | apply Kd.S_drew)); exact ZJ HO429.out (fun _ hk => ⟨hk.1.1.2, hk.1.2⟩)⟩, ⟨bk_ BK417.out⟩, ⟨bk_ BK430.out⟩, ⟨hb_⟩⟩
    case rest =>
     clear HC17
     try clear c1
     try clear c2
     try clear p2
     try clear c3
     try clear c3b0
     try clear c4
     try clear c12
     try clear c13
     try clear c15
     try clear c17
     try clear c18
     try clear c19
     try clear c20
     try clear c21
     try clear c28
     try clear c40
     try clear c40b0
     try clear hcz19_0
     try clear hcz19_1
     try clear hcz21_0
     try clear hcz21_1
     try clear hcz25_0
     try clear hcz25_1
     try clear hcz29_0
     try clear hcz29_1
     try clear hcz38_0
     try clear hcz38_1
     try clear hcz5_0
     try clear hcz5_1
     try clear hfz19_0
     try clear hfz19_1
     try clear hfz21_0
     try clear hfz21_1
     try clear hfz25_0
     try clear hfz25_1
     try clear hfz29_0
     try clear hfz29_1
     try clear hfz38_0
     try clear hfz38_1
     try clear hfz5_0
     try clear hfz5_1
     obtain ⟨kq, x42_16, rfl, HA, HJ16, HO_4, HO_6, HO_431001, BK417, BK430, HB⟩ := hcut
     have hl431001_16 := (Zq HO_431001.out).1
     rw [hl431001_16] at HO_431001
     (try simp only [hl431001_16])
     (try simp only [hl431001_16] at BK417)
     (try simp only [hl431001_16] at BK430)
     (try simp only [hl431001_16] at HO_4)
     (try simp only [hl431001_16] at HO_6)
     cases kq with
     | zero => exact absurd HA.out (by simp [laws_FnExactPreferred.j0])
     | succ kj16 =>
      have H := HA.out
      clear HA
      simp only [laws_FnExactPreferred.j0] at H
      by_cases c42 : x42_16 = true
      ·subst c42
       have H1 : (some false) = some r := by rw [if_pos rfl] at H; exact H
       clear H
       have H := H1
       clear H1
       obtain rfl := Option.some.inj H
       go_wp2
       all_goals go_ret
       all_goals exact ⟨er_, hb_⟩
      ·replace c42 := Bool.eq_false_iff.mpr c42
       subst c42
       have H1 : ((laws_markIntSS.f kj16 t431 1).bind fun bt443 => ((laws_heldIntSS.f kj16 bt443.2 1).bind fun t445 => (if t445 < 0 then (some false) else (if t445 = bt443.1 then ((laws_toGraph.f kj16 a0_0 l0_1).bind fun bt446 => ((impl_Preferred.f kj16 bt446.1 bt446.2).bind fun t450 => ((laws_eqIntSS.f kj16 t450 t423).bind fun t453 => (if t453 = true then ((laws_heldIntSS.f kj16 bt443.2 1).bind fun t454 => (if t454 < 0 then (some false) else (if t454 = bt443.1 then (some true) else (some false)))) else (some false))))) else (some false))))) = some r := by rw [if_neg (show ¬ (false = true) by decide)] at H; exact H
       clear H
       have H := H1
       clear H1
       replace H := Option.bind_eq_some_iff.mp H
       obtain ⟨⟨t443, t444⟩, A430, H⟩ := H
       replace H : ((laws_heldIntSS.f kj16 t444 1).bind fun t445 => (if t445 < 0 then (some false) else (if t445 = t443 then ((laws_toGraph.f kj16 a0_0 l0_1).bind fun bt446 => ((impl_Preferred.f kj16 bt446.1 bt446.2).bind fun t450 => ((laws_eqIntSS.f kj16 t450 t423).bind fun t453 => (if t453 = true then ((laws_heldIntSS.f kj16 t444 1).bind fun t454 => (if t454 < 0 then (some false) else (if t454 = t443 then (some true) else (some false)))) else (some false))))) else (some false)))) = some r := H
       have A43 := Aside0.mk A430
       clear A430
       replace H := Option.bind_eq_some_iff.mp H
       obtain ⟨t445, A440, H⟩ := H
       replace H : (if t445 < 0 then (some false) else (if t445 = t443 then ((laws_toGraph.f kj16 a0_0 l0_1).bind fun bt446 => ((impl_Preferred.f kj16 bt446.1 bt446.2).bind fun t450 => ((laws_eqIntSS.f kj16 t450 t423).bind fun t453 => (if t453 = true then ((laws_heldIntSS.f kj16 t444 1).bind fun t454 => (if t454 < 0 then (some false) else (if t454 = t443 then (some true) else (some false)))) else (some false))))) else (some false))) = some r := H
       have A44 := Aside0.mk A440
       clear A440
       by_cases c45 : t445 < 0
       ·rw [if_pos c45] at H
        have c45b0 : decide (t445 < 0) = true := decide_eq_true c45
        clear c45
        obtain rfl := Option.some.inj H
        go_wp2_with (first | ((with_reducible refine Zg (f := 22) rfl ?_); refine Zw (some 45) rfl rfl Try.func22 (by kernel_rfl) rfl #[.slice Ao32 t431.length co32, .int .i64 1] rfl ar_ ?_; (with_reducible refine (laws_markIntSS.calls kj16 (fun W_ => SpOf (Kd.slice 3 (Kd.int .i64)) (fun k_ => (nsp_HO433 ≤ k_) ∧ k_ < nsp_HO438) W_ (fun k_ => (some k_ ≠ (.slice Ao33 t423.length co33 : Value).ownBlock ∧ some k_ ≠ (.slice Ao30 t441.length co30 : Value).ownBlock)) (.slice Ao32 t431.length co32)) (.slice Ao32 t431.length co32) t431 1 t443 t444 w _ ?side1 ?side2 A43.out).mono ?_); (case side1 => repeat (first | (with_reducible first | exact HB.out | apply below_alloc | apply pw_below_drewN | apply below_drew1 | refine below_set ?_ GE417.out | refine below_set ?_ GE430.out) | exact HB.out)); (case side2 => exact (S_ofSp (ZJ (ok' := fun k_ => (some k_ ≠ (.slice Ao33 t423.length co33 : Value).ownBlock ∧ some k_ ≠ (.slice Ao30 t441.length co30 : Value).ownBlock)) (HO_6.out) (fun k_ hk_ => by have h_ := hk_; (try simp only [true_and, and_assoc] at h_); (try simp only [true_and, and_assoc]); exact h_)))); rintro e w46 ⟨rfl, hy0, hb, hkp⟩; refine ⟨_, rfl, ?_⟩; have n0_ := Aside0.mk (N_besideSp (Zx (ok' := fun k_ => (some k_ ≠ (.slice Ao32 t431.length co32 : Value).ownBlock ∧ (some k_ ≠ (.slice Ao30 t441.length co30 : Value).ownBlock ∧ (k_ ≠ gb417 ∧ (k_ ≠ gb430 ∧ (k_ < nsp_HO429 ∧ (k_ < nsp_HO433 ∧ k_ < nsp_HO438))))))) (HO_4.out) (fun k_ hk_ => by have h_ := hk_; (try simp only [true_and, and_assoc] at h_); (try simp only [true_and, and_assoc]); first | exact h_ | ((repeat' apply And.intro) <;> first | exact h_.1 | exact h_.2 | exact h_.2.1 | exact h_.2.2 | exact h_.2.2.1 | exact h_.2.2.2 | exact h_.2.2.2.1 | exact h_.2.2.2.2 | exact h_.2.2.2.2.1 | exact h_.2.2.2.2.2 | exact h_.2.2.2.2.2.1 | exact h_.2.2.2.2.2.2 | exact h_.2.2.2.2.2.2.1 | exact h_.2.2.2.2.2.2.2 | exact h_.2.2.2.2.2.2.2.1 | exact h_.2.2.2.2.2.2.2.2 | exact h_.2.2.2.2.2.2.2.2.1 | exact h_.2.2.2.2.2.2.2.2.2 | exact h_.2.2.2.2.2.2.2.2.2.1 | exact h_.2.2.2.2.2.2.2.2.2.2 | exact h_.2.2.2.2.2.2.2.2.2.2.1 | exact h_.2.2.2.2.2.2.2.2.2.2.2 | exact h_.2.2.2.2.2.2.2.2.2.2.2.1 | exact h_.2.2.2.2.2.2.2.2.2.2.2.2))) hkp (fun k_ ha_ hb_ => by (try dsimp only at ha_ hb_); omega)); have n1_ := Aside0.mk (S_toSp hy0); have n2_ := Aside0.mk (S_besideSp (ZJ (ok' := fun k_ => (some k_ ≠ (.slice Ao33 t423.length co33 : Value).ownBlock ∧ some k_ ≠ (.slice Ao32 t431.length co32 : Value).ownBlock)) (HO_431001.out) (fun k_ hk_ => by have h_ := hk_; (try simp only [true_and, and_assoc] at h_); (try simp only [true_and, and_assoc]); exact h_)) hkp (fun k_ ha_ hb_ => by (try dsimp only at ha_ hb_); omega) (by first | decide | exact spE_ (by decide))); have n3_ := Aside0.mk (box_keptSp (g := gb417) (cs := #[.int .i64 a0_0, .slice A0_1 l0_1.length c0_1]) (t := 24) (bk_ BK417.out) hkp (by first | decide | exact spE_ (by decide))); have n4_ := Aside0.mk (box_keptSp (g := gb430) (cs := #[.int .i64 t426, .slice Ao30 t441.length co30]) (t := 27) (bk_ BK430.out) hkp (by first | decide | exact spE_ (by decide))); have n5_ := Aside0.mk (hb); clear HO_4; clear HO_6; clear HO_431001; clear BK417; clear BK430; clear HB; have HO_4 := n0_; have HO_6 := n1_; have HO_431001 := n2_; have BK417 := n3_; have BK430 := n4_; have HB := n5_; clear n0_ n1_ n2_ n3_ n4_ n5_; (try clear hb); (try clear hkp); (try clear hy0)) | ((with_reducible refine Zg (f := 23) rfl ?_); refine Zw (some 48) rfl rfl Try.func23 (by kernel_rfl) rfl #[.slice Ao32 t444.length co32, .int .i64 1] rfl (by (try simp only [List.map_toArray, List.map_cons, List.map_nil]); first | done | (rw [show t444.length = t431.length from (Zq HO_6.out).1.symm] <;> rfl) | rfl | (simp only [List.length_drop, List.length_take]; rfl)) ?_; (with_reducible refine (laws_heldIntSS.calls kj16 _ _ t444 1 t445 _ ?side1 ?side2 A44.out).mono ?_); (case side1 => repeat (first | exact (Zq HO_6.out).2.2 | (with_reducible refine Zs ?_ _) | (with_reducible refine Zr ?_ _) | (with_reducible refine Zt ?_))); (case side2 => rw [show t444.length = t431.length from (Zq HO_6.out).1.symm]; exact (Zq HO_6.out).2.1); rintro e w' ⟨rfl, ⟨nd, rfl⟩⟩; refine ⟨_, rfl, ?_⟩))
        all_goals go_ret
        all_goals exact ⟨er_, hb_⟩
       ·rw [if_neg c45] at H
        have c45b0 : decide (t445 < 0) = false := decide_eq_false c45
        clear c45
        by_cases c47 : t445 = t443
        ·rw [if_pos c47] at H
         have c47b0 : (t445 == t443) = true := beq_iff_eq.mpr c47
         have c47b1 : (t445 != t443) = false := bne_eq_false_iff_eq.mpr c47
         clear c47
         replace H := Option.bind_eq_some_iff.mp H
         obtain ⟨⟨t446, t447⟩, A480, H⟩ := H
         replace H : ((impl_Preferred.f kj16 t446 t447).bind fun t450 => ((laws_eqIntSS.f kj16 t450 t423).bind fun t453 => (if t453 = true then ((laws_heldIntSS.f kj16 t444 1).bind fun t454 => (if t454 < 0 then (some false) else (if t454 = t443 then (some true) else (some false)))) else (some false)))) = some r := H
         have A48 := Aside0.mk A480
         clear A480
         replace H := Option.bind_eq_some_iff.mp H
         obtain ⟨t450, A490, H⟩ := H
         replace H : ((laws_eqIntSS.f kj16 t450 t423).bind fun t453 => (if t453 = true then ((laws_heldIntSS.f kj16 t444 1).bind fun t454 => (if t454 < 0 then (some false) else (if t454 = t443 then (some true) else (some false)))) else (some false))) = some r := H
         have A49 := Aside0.mk A490
         clear A490
         replace H := Option.bind_eq_some_iff.mp H
         obtain ⟨t453, A500, H⟩ := H
         replace H : (if t453 = true then ((laws_heldIntSS.f kj16 t444 1).bind fun t454 => (if t454 < 0 then (some false) else (if t454 = t443 then (some true) else (some false)))) else (some false)) = some r := H
         have A50 := Aside0.mk A500
         clear A500
         by_cases c51 : t453 = true
         ·subst c51
          have H1 : ((laws_heldIntSS.f kj16 t444 1).bind fun t454 => (if t454 < 0 then (some false) else (if t454 = t443 then (some true) else (some false)))) = some r := by rw [if_pos rfl] at H; exact H
          clear H
          have H := H1
          clear H1
          replace H := Option.bind_eq_some_iff.mp H
          obtain ⟨t454, A520, H⟩ := H
          replace H : (if t454 < 0 then (some false) else (if t454 = t443 then (some true) else (some false))) = some r := H
          have A52 := Aside0.mk A520
          clear A520
          by_cases c53 : t454 < 0
          ·rw [if_pos c53] at H
           have c53b0 : decide (t454 < 0) = true := decide_eq_true c53
           clear c53
           obtain rfl := Option.some.inj H
           go_wp2_with (first | ((with_reducible refine Zg (f := 22) rfl ?_); refine Zw (some 45) rfl rfl Try.func22 (by kernel_rfl) rfl #[.slice Ao32 t431.length co32, .int .i64 1] rfl ar_ ?_; (with_reducible refine (laws_markIntSS.calls kj16 (fun W_ => SpOf (Kd.slice 3 (Kd.int .i64)) (fun k_ => (nsp_HO433 ≤ k_) ∧ k_ < nsp_HO438) W_ (fun k_ => (some k_ ≠ (.slice Ao33 t423.length co33 : Value).ownBlock ∧ some k_ ≠ (.slice Ao30 t441.length co30 : Value).ownBlock)) (.slice Ao32 t431.length co32)) (.slice Ao32 t431.length co32) t431 1 t443 t444 w _ ?side1 ?side2 A43.out).mono ?_); (case side1 => repeat (first | (with_reducible first | exact HB.out | apply below_alloc | apply pw_below_drewN | apply below_drew1 | refine below_set ?_ GE417.out | refine below_set ?_ GE430.out) | exact HB.out)); (case side2 => exact (S_ofSp (ZJ (ok' := fun k_ => (some k_ ≠ (.slice Ao33 t423.length co33 : Value).ownBlock ∧ some k_ ≠ (.slice Ao30 t441.length co30 : Value).ownBlock)) (HO_6.out) (fun k_ hk_ => by have h_ := hk_; (try simp only [true_and, and_assoc] at h_); (try simp only [true_and, and_assoc]); exact h_)))); rintro e w54 ⟨rfl, hy0, hb, hkp⟩; refine ⟨_, rfl, ?_⟩; have n0_ := Aside0.mk (N_besideSp (Zx (ok' := fun k_ => (some k_ ≠ (.slice Ao32 t431.length co32 : Value).ownBlock ∧ (some k_ ≠ (.slice Ao30 t441.length co30 : Value).ownBlock ∧ (k_ ≠ gb417 ∧ (k_ ≠ gb430 ∧ (k_ < nsp_HO429 ∧ (k_ < nsp_HO433 ∧ k_ < nsp_HO438))))))) (HO_4.out) (fun k_ hk_ => by have h_ := hk_; (try simp only [true_and, and_assoc] at h_); (try simp only [true_and, and_assoc]); first | exact h_ | ((repeat' apply And.intro) <;> first | exact h_.1 | exact h_.2 | exact h_.2.1 | exact h_.2.2 | exact h_.2.2.1 | exact h_.2.2.2 | exact h_.2.2.2.1 | exact h_.2.2.2.2 | exact h_.2.2.2.2.1 | exact h_.2.2.2.2.2 | exact h_.2.2.2.2.2.1 | exact h_.2.2.2.2.2.2 | exact h_.2.2.2.2.2.2.1 | exact h_.2.2.2.2.2.2.2 | exact h_.2.2.2.2.2.2.2.1 | exact h_.2.2.2.2.2.2.2.2 | exact h_.2.2.2.2.2.2.2.2.1 | exact h_.2.2.2.2.2.2.2.2.2 | exact h_.2.2.2.2.2.2.2.2.2.1 | exact h_.2.2.2.2.2.2.2.2.2.2 | exact h_.2.2.2.2.2.2.2.2.2.2.1 | exact h_.2.2.2.2.2.2.2.2.2.2.2 | exact h_.2.2.2.2.2.2.2.2.2.2.2.1 | exact h_.2.2.2.2.2.2.2.2.2.2.2.2))) hkp (fun k_ ha_ hb_ => by (try dsimp only at ha_ hb_); omega)); have n1_ := Aside0.mk (S_toSp hy0); have n2_ := Aside0.mk (S_besideSp (ZJ (ok' := fun k_ => (some k_ ≠ (.slice Ao33 t423.length co33 : Value).ownBlock ∧ some k_ ≠ (.slice Ao32 t431.length co32 : Value).ownBlock)) (HO_431001.out) (fun k_ hk_ => by have h_ := hk_; (try simp only [true_and, and_assoc] at h_); (try simp only [true_and, and_assoc]); exact h_)) hkp (fun k_ ha_ hb_ => by (try dsimp only at ha_ hb_); omega) (by first | decide | exact spE_ (by decide))); have n3_ := Aside0.mk (box_keptSp (g := gb417) (cs := #[.int .i64 a0_0, .slice A0_1 l0_1.length c0_1]) (t := 24) (bk_ BK417.out) hkp (by first | decide | exact spE_ (by decide))); have n4_ := Aside0.mk (box_keptSp (g := gb430) (cs := #[.int .i64 t426, .slice Ao30 t441.length co30]) (t := 27) (bk_ BK430.out) hkp (by first | decide | exact spE_ (by decide))); have n5_ := Aside0.mk (hb); clear HO_4; clear HO_6; clear HO_431001; clear BK417; clear BK430; clear HB; have HO_4 := n0_; have HO_6 := n1_; have HO_431001 := n2_; have BK417 := n3_; have BK430 := n4_; have HB := n5_; clear n0_ n1_ n2_ n3_ n4_ n5_; (try clear hb); (try clear hkp); (try clear hy0)) | ((with_reducible refine Zg (f := 23) rfl ?_); refine Zw (some 48) rfl rfl Try.func23 (by kernel_rfl) rfl #[.slice Ao32 t444.length co32, .int .i64 1] rfl (by (try simp only [List.map_toArray, List.map_cons, List.map_nil]); first | done | (rw [show t444.length = t431.length from (Zq HO_6.out).1.symm] <;> rfl) | rfl | (simp only [List.length_drop, List.length_take]; rfl)) ?_; (with_reducible refine (laws_heldIntSS.calls kj16 _ _ t444 1 t445 _ ?side1 ?side2 A44.out).mono ?_); (case side1 => repeat (first | exact (Zq HO_6.out).2.2 | (with_reducible refine Zs ?_ _) | (with_reducible refine Zr ?_ _) | (with_reducible refine Zt ?_))); (case side2 => rw [show t444.length = t431.length from (Zq HO_6.out).1.symm]; exact (Zq HO_6.out).2.1); rintro e w' ⟨rfl, ⟨nd, rfl⟩⟩; refine ⟨_, rfl, ?_⟩; have hnb55 := NB417_430.out; have hnc55 := NB430_417.out; have hcz56_0 : w54.cell? ⟨gb417, 0, none⟩ = some (.int .i64 a0_0) := (Ze BK417.out 0).trans rfl; have hcz56_1 : w54.cell? ⟨gb417, 1, none⟩ = some (.slice A0_1 l0_1.length c0_1) := (Ze BK417.out 1).trans rfl; have hfz56_0 := Zd BK417.out 0; have hfz56_1 := Zd BK417.out 1) | ((with_reducible refine Zg (f := 15) rfl ?_); refine Zw (some 55) rfl rfl Try.func15 (by kernel_rfl) rfl #[.agg #[.int .i64 a0_0, .slice A0_1 l0_1.length c0_1]] rfl ar_ ?_; (with_reducible refine (laws_toGraph.calls kj16 a0_0 _ _ l0_1 t446 t447 _ ?side1 ?side2 A48.out).mono ?_); (case side1 => repeat (first | exact (Kd.C_below HR0_1.out hb_) | (with_reducible refine Zs ?_ _) | (with_reducible refine Zr ?_ _) | (with_reducible refine Zt ?_))); (case side2 => exact HC0_1.out); rintro e w57 ⟨v448, rfl, ho0, hb⟩; refine ⟨_, rfl, ?_⟩; obtain ⟨nsp_HO449, hnsp_HO449, ho0⟩ := S_newSp ho0; have n0_ := Aside0.mk (Kd.N_elder' ((N_oldSp (rN_ HO_4.out) hnsp_HO449)) (ZG ho0) hb); have n1_ := Aside0.mk (ZH ((S_oldSp (rS_ HO_6.out) hnsp_HO449)) (ZG ho0) hb); have n2_ := Aside0.mk (ZH ((S_oldSp (rS_ HO_431001.out) hnsp_HO449)) (ZG ho0) hb); have n3_ := Aside0.mk (Kd.S_lower (ZF (ZF (ZF ho0 (Kd.N_lt (rN_ HO_4.out))) (Kd.S_lt (rS_ HO_6.out))) (Kd.S_lt (rS_ HO_431001.out))) (Zk hb_)); have n4_ := Aside0.mk (Zj (g := gb417) (o := .cells #[.int .i64 a0_0, .slice A0_1 l0_1.length c0_1] 24 (0, 0)) (bk_ BK417.out) hb); have n5_ := Aside0.mk (Zj (g := gb430) (o := .cells #[.int .i64 t426, .slice Ao30 t441.length co30] 27 (0, 0)) (bk_ BK430.out) hb); have n6_ := Aside0.mk (Zf hb_ hb); clear HO_4; clear HO_6; clear HO_431001; clear BK417; clear BK430; clear HB; have HO_4 := n0_; have HO_6 := n1_; have HO_431001 := n2_; have HO449 := n3_; have BK417 := n4_; have BK430 := n5_; have HB := n6_; clear n0_ n1_ n2_ n3_ n4_ n5_ n6_; (try clear hb); (try clear hb2); (try clear hk); (try clear hi); (try clear ho0); obtain ⟨Ao58, co58, eo58⟩ := Kd.S_slice HO449.out; subst eo58) | ((with_reducible refine Zg (f := 19) rfl ?_); refine Zw (some 56) rfl rfl Try.func19 (by kernel_rfl) rfl #[.agg #[.int .i64 t446, .slice Ao58 t447.length co58]] rfl ar_ ?_; (with_reducible refine (impl_Preferred.calls kj16 t446 _ _ t447 t450 _ ?side1 ?side2 A49.out).mono ?_); (case side1 => repeat (first | exact (Zq HO449.out).2.2 | (with_reducible refine Zs ?_ _) | (with_reducible refine Zr ?_ _) | (with_reducible refine Zt ?_))); (case side2 => exact (Zq HO449.out).2.1); rintro e w59 ⟨v451, rfl, ho0, hb⟩; refine ⟨_, rfl, ?_⟩; obtain ⟨nsp_HO452, hnsp_HO452, ho0⟩ := S_newSp ho0; have n0_ := Aside0.mk (Kd.N_elder' ((N_oldSp (rN_ HO_4.out) hnsp_HO452)) (ZG ho0) hb); have n1_ := Aside0.mk (ZH ((S_oldSp (rS_ HO_6.out) hnsp_HO452)) (ZG ho0) hb); have n2_ := Aside0.mk (ZH ((S_oldSp (rS_ HO_431001.out) hnsp_HO452)) (ZG ho0) hb); have n3_ := Aside0.mk (ZH ((S_oldSp (rS_ HO449.out) hnsp_HO452)) (ZG ho0) hb); have n4_ := Aside0.mk (Kd.S_lower (ZF (ZF (ZF (ZF ho0 (Kd.N_lt (rN_ HO_4.out))) (Kd.S_lt (rS_ HO_6.out))) (Kd.S_lt (rS_ HO_431001.out))) (Kd.S_lt (rS_ HO449.out))) (Zk hb_)); have n5_ := Aside0.mk (Zj (g := gb417) (o := .cells #[.int .i64 a0_0, .slice A0_1 l0_1.length c0_1] 24 (0, 0)) (bk_ BK417.out) hb); have n6_ := Aside0.mk (Zj (g := gb430) (o := .cells #[.int .i64 t426, .slice Ao30 t441.length co30] 27 (0, 0)) (bk_ BK430.out) hb); have n7_ := Aside0.mk (Zf hb_ hb); clear HO_4; clear HO_6; clear HO_431001; clear HO449; clear BK417; clear BK430; clear HB; have HO_4 := n0_; have HO_6 := n1_; have HO_431001 := n2_; have HO449 := n3_; have HO452 := n4_; have BK417 := n5_; have BK430 := n6_; have HB := n7_; clear n0_ n1_ n2_ n3_ n4_ n5_ n6_ n7_; (try clear hb); (try clear hb2); (try clear hk); (try clear hi); (try clear ho0); obtain ⟨Ao60, co60, eo60⟩ := Kd.S_slice HO452.out; subst eo60) | ((with_reducible refine Zg (f := 20) rfl ?_); refine Zw (some 59) rfl rfl Try.func20 (by kernel_rfl) rfl #[.slice Ao60 t450.length co60, .slice Ao33 t423.length co33] rfl ar_ ?_; (with_reducible refine (laws_eqIntSS.calls kj16 _ _ t450 _ _ t423 true _ ?side1 ?side2 ?side3 ?side4 A50.out).mono ?_); (case side1 => repeat (first | exact (Zq HO452.out).2.2 | (with_reducible refine Zs ?_ _) | (with_reducible refine Zr ?_ _) | (with_reducible refine Zt ?_))); (case side2 => exact (Zq HO452.out).2.1); (case side3 => repeat (first | exact (Kd.N_reads' HO_4.out).2.2 | (with_reducible refine Zs ?_ _) | (with_reducible refine Zr ?_ _) | (with_reducible refine Zt ?_))); (case side4 => exact (Kd.N_reads' HO_4.out).2.1); rintro e w' ⟨rfl, ⟨nd, rfl⟩⟩; refine ⟨_, rfl, ?_⟩) | ((with_reducible refine Zg (f := 23) rfl ?_); refine Zw (some 63) rfl rfl Try.func23 (by kernel_rfl) rfl #[.slice Ao32 t444.length co32, .int .i64 1] rfl (by (try simp only [List.map_toArray, List.map_cons, List.map_nil]); first | done | (rw [show t444.length = t431.length from (Zq HO_6.out).1.symm] <;> rfl) | rfl | (simp only [List.length_drop, List.length_take]; rfl)) ?_; (with_reducible refine (laws_heldIntSS.calls kj16 _ _ t444 1 t454 _ ?side1 ?side2 A52.out).mono ?_); (case side1 => repeat (first | exact (Zq HO_6.out).2.2 | (with_reducible refine Zs ?_ _) | (with_reducible refine Zr ?_ _) | (with_reducible refine Zt ?_))); (case side2 => rw [show t444.length = t431.length from (Zq HO_6.out).1.symm]; exact (Zq HO_6.out).2.1); rintro e w' ⟨rfl, ⟨nd, rfl⟩⟩; refine ⟨_, rfl, ?_⟩))
           all_goals go_ret
           all_goals exact ⟨er_, hb_⟩
          ·rw [if_neg c53] at H
           have c53b0 : decide (t454 < 0) = false := decide_eq_false c53
           clear c53
           by_cases c61 : t454 = t443
           ·rw [if_pos c61] at H
            have c61b0 : (t454 == t443) = true := beq_iff_eq.mpr c61
            have c61b1 : (t454 != t443) = false := bne_eq_false_iff_eq.mpr c61
            clear c61
            obtain rfl := Option.some.inj H
            go_wp2_with (first | ((with_reducible refine Zg (f := 22) rfl ?_); refine Zw (some 45) rfl rfl Try.func22 (by kernel_rfl) rfl #[.slice Ao32 t431.length co32, .int .i64 1] rfl ar_ ?_; (with_reducible refine (laws_markIntSS.calls kj16 (fun W_ => SpOf (Kd.slice 3 (Kd.int .i64)) (fun k_ => (nsp_HO433 ≤ k_) ∧ k_ < nsp_HO438) W_ (fun k_ => (some k_ ≠ (.slice Ao33 t423.length co33 : Value).ownBlock ∧ some k_ ≠ (.slice Ao30 t441.length co30 : Value).ownBlock)) (.slice Ao32 t431.length co32)) (.slice Ao32 t431.length co32) t431 1 t443 t444 w _ ?side1 ?side2 A43.out).mono ?_); (case side1 => repeat (first | (with_reducible first | exact HB.out | apply below_alloc | apply pw_below_drewN | apply below_drew1 | refine below_set ?_ GE417.out | refine below_set ?_ GE430.out) | exact HB.out)); (case side2 => exact (S_ofSp (ZJ (ok' := fun k_ => (some k_ ≠ (.slice Ao33 t423.length co33 : Value).ownBlock ∧ some k_ ≠ (.slice Ao30 t441.length co30 : Value).ownBlock)) (HO_6.out) (fun k_ hk_ => by have h_ := hk_; (try simp only [true_and, and_assoc] at h_); (try simp only [true_and, and_assoc]); exact h_)))); rintro e w62 ⟨rfl, hy0, hb, hkp⟩; refine ⟨_, rfl, ?_⟩; have n0_ := Aside0.mk (N_besideSp (Zx (ok' := fun k_ => (some k_ ≠ (.slice Ao32 t431.length co32 : Value).ownBlock ∧ (some k_ ≠ (.slice Ao30 t441.length co30 : Value).ownBlock ∧ (k_ ≠ gb417 ∧ (k_ ≠ gb430 ∧ (k_ < nsp_HO429 ∧ (k_ < nsp_HO433 ∧ k_ < nsp_HO438))))))) (HO_4.out) (fun k_ hk_ => by have h_ := hk_; (try simp only [true_and, and_assoc] at h_); (try simp only [true_and, and_assoc]); first | exact h_ | ((repeat' apply And.intro) <;> first | exact h_.1 | exact h_.2 | exact h_.2.1 | exact h_.2.2 | exact h_.2.2.1 | exact h_.2.2.2 | exact h_.2.2.2.1 | exact h_.2.2.2.2 | exact h_.2.2.2.2.1 | exact h_.2.2.2.2.2 | exact h_.2.2.2.2.2.1 | exact h_.2.2.2.2.2.2 | exact h_.2.2.2.2.2.2.1 | exact h_.2.2.2.2.2.2.2 | exact h_.2.2.2.2.2.2.2.1 | exact h_.2.2.2.2.2.2.2.2 | exact h_.2.2.2.2.2.2.2.2.1 | exact h_.2.2.2.2.2.2.2.2.2 | exact h_.2.2.2.2.2.2.2.2.2.1 | exact h_.2.2.2.2.2.2.2.2.2.2 | exact h_.2.2.2.2.2.2.2.2.2.2.1 | exact h_.2.2.2.2.2.2.2.2.2.2.2 | exact h_.2.2.2.2.2.2.2.2.2.2.2.1 | exact h_.2.2.2.2.2.2.2.2.2.2.2.2))) hkp (fun k_ ha_ hb_ => by (try dsimp only at ha_ hb_); omega)); have n1_ := Aside0.mk (S_toSp hy0); have n2_ := Aside0.mk (S_besideSp (ZJ (ok' := fun k_ => (some k_ ≠ (.slice Ao33 t423.length co33 : Value).ownBlock ∧ some k_ ≠ (.slice Ao32 t431.length co32 : Value).ownBlock)) (HO_431001.out) (fun k_ hk_ => by have h_ := hk_; (try simp only [true_and, and_assoc] at h_); (try simp only [true_and, and_assoc]); exact h_)) hkp (fun k_ ha_ hb_ => by (try dsimp only at ha_ hb_); omega) (by first | decide | exact spE_ (by decide))); have n3_ := Aside0.mk (box_keptSp (g := gb417) (cs := #[.int .i64 a0_0, .slice A0_1 l0_1.length c0_1]) (t := 24) (bk_ BK417.out) hkp (by first | decide | exact spE_ (by decide))); have n4_ := Aside0.mk (box_keptSp (g := gb430) (cs := #[.int .i64 t426, .slice Ao30 t441.length co30]) (t := 27) (bk_ BK430.out) hkp (by first | decide | exact spE_ (by decide))); have n5_ := Aside0.mk (hb); clear HO_4; clear HO_6; clear HO_431001; clear BK417; clear BK430; clear HB; have HO_4 := n0_; have HO_6 := n1_; have HO_431001 := n2_; have BK417 := n3_; have BK430 := n4_; have HB := n5_; clear n0_ n1_ n2_ n3_ n4_ n5_; (try clear hb); (try clear hkp); (try clear hy0)) | ((with_reducible refine Zg (f := 23) rfl ?_); refine Zw (some 48) rfl rfl Try.func23 (by kernel_rfl) rfl #[.slice Ao32 t444.length co32, .int .i64 1] rfl (by (try simp only [List.map_toArray, List.map_cons, List.map_nil]); first | done | (rw [show t444.length = t431.length from (Zq HO_6.out).1.symm] <;> rfl) | rfl | (simp only [List.length_drop, List.length_take]; rfl)) ?_; (with_reducible refine (laws_heldIntSS.calls kj16 _ _ t444 1 t445 _ ?side1 ?side2 A44.out).mono ?_); (case side1 => repeat (first | exact (Zq HO_6.out).2.2 | (with_reducible refine Zs ?_ _) | (with_reducible refine Zr ?_ _) | (with_reducible refine Zt ?_))); (case side2 => rw [show t444.length = t431.length from (Zq HO_6.out).1.symm]; exact (Zq HO_6.out).2.1); rintro e w' ⟨rfl, ⟨nd, rfl⟩⟩; refine ⟨_, rfl, ?_⟩; have hnb63 := NB417_430.out; have hnc63 := NB430_417.out; have hcz64_0 : w62.cell? ⟨gb417, 0, none⟩ = some (.int .i64 a0_0) := (Ze BK417.out 0).trans rfl; have hcz64_1 : w62.cell? ⟨gb417, 1, none⟩ = some (.slice A0_1 l0_1.length c0_1) := (Ze BK417.out 1).trans rfl; have hfz64_0 := Zd BK417.out 0; have hfz64_1 := Zd BK417.out 1) | ((with_reducible refine Zg (f := 15) rfl ?_); refine Zw (some 55) rfl rfl Try.func15 (by kernel_rfl) rfl #[.agg #[.int .i64 a0_0, .slice A0_1 l0_1.length c0_1]] rfl ar_ ?_; (with_reducible refine (laws_toGraph.calls kj16 a0_0 _ _ l0_1 t446 t447 _ ?side1 ?side2 A48.out).mono ?_); (case side1 => repeat (first | exact (Kd.C_below HR0_1.out hb_) | (with_reducible refine Zs ?_ _) | (with_reducible refine Zr ?_ _) | (with_reducible refine Zt ?_))); (case side2 => exact HC0_1.out); rintro e w65 ⟨v448, rfl, ho0, hb⟩; refine ⟨_, rfl, ?_⟩; obtain ⟨nsp_HO449, hnsp_HO449, ho0⟩ := S_newSp ho0; have n0_ := Aside0.mk (Kd.N_elder' ((N_oldSp (rN_ HO_4.out) hnsp_HO449)) (ZG ho0) hb); have n1_ := Aside0.mk (ZH ((S_oldSp (rS_ HO_6.out) hnsp_HO449)) (ZG ho0) hb); have n2_ := Aside0.mk (ZH ((S_oldSp (rS_ HO_431001.out) hnsp_HO449)) (ZG ho0) hb); have n3_ := Aside0.mk (Kd.S_lower (ZF (ZF (ZF ho0 (Kd.N_lt (rN_ HO_4.out))) (Kd.S_lt (rS_ HO_6.out))) (Kd.S_lt (rS_ HO_431001.out))) (Zk hb_)); have n4_ := Aside0.mk (Zj (g := gb417) (o := .cells #[.int .i64 a0_0, .slice A0_1 l0_1.length c0_1] 24 (0, 0)) (bk_ BK417.out) hb); have n5_ := Aside0.mk (Zj (g := gb430) (o := .cells #[.int .i64 t426, .slice Ao30 t441.length co30] 27 (0, 0)) (bk_ BK430.out) hb); have n6_ := Aside0.mk (Zf hb_ hb); clear HO_4; clear HO_6; clear HO_431001; clear BK417; clear BK430; clear HB; have HO_4 := n0_; have HO_6 := n1_; have HO_431001 := n2_; have HO449 := n3_; have BK417 := n4_; have BK430 := n5_; have HB := n6_; clear n0_ n1_ n2_ n3_ n4_ n5_ n6_; (try clear hb); (try clear hb2); (try clear hk); (try clear hi); (try clear ho0); obtain ⟨Ao66, co66, eo66⟩ := Kd.S_slice HO449.out; subst eo66) | ((with_reducible refine Zg (f := 19) rfl ?_); refine Zw (some 56) rfl rfl Try.func19 (by kernel_rfl) rfl #[.agg #[.int .i64 t446, .slice Ao66 t447.length co66]] rfl ar_ ?_; (with_reducible refine (impl_Preferred.calls kj16 t446 _ _ t447 t450 _ ?side1 ?side2 A49.out).mono ?_); (case side1 => repeat (first | exact (Zq HO449.out).2.2 | (with_reducible refine Zs ?_ _) | (with_reducible refine Zr ?_ _) | (with_reducible refine Zt ?_))); (case side2 => exact (Zq HO449.out).2.1); rintro e w67 ⟨v451, rfl, ho0, hb⟩; refine ⟨_, rfl, ?_⟩; obtain ⟨nsp_HO452, hnsp_HO452, ho0⟩ := S_newSp ho0; have n0_ := Aside0.mk (Kd.N_elder' ((N_oldSp (rN_ HO_4.out) hnsp_HO452)) (ZG ho0) hb); have n1_ := Aside0.mk (ZH ((S_oldSp (rS_ HO_6.out) hnsp_HO452)) (ZG ho0) hb); have n2_ := Aside0.mk (ZH ((S_oldSp (rS_ HO_431001.out) hnsp_HO452)) (ZG ho0) hb); have n3_ := Aside0.mk (ZH ((S_oldSp (rS_ HO449.out) hnsp_HO452)) (ZG ho0) hb); have n4_ := Aside0.mk (Kd.S_lower (ZF (ZF (ZF (ZF ho0 (Kd.N_lt (rN_ HO_4.out))) (Kd.S_lt (rS_ HO_6.out))) (Kd.S_lt (rS_ HO_431001.out))) (Kd.S_lt (rS_ HO449.out))) (Zk hb_)); have n5_ := Aside0.mk (Zj (g := gb417) (o := .cells #[.int .i64 a0_0, .slice A0_1 l0_1.length c0_1] 24 (0, 0)) (bk_ BK417.out) hb); have n6_ := Aside0.mk (Zj (g := gb430) (o := .cells #[.int .i64 t426, .slice Ao30 t441.length co30] 27 (0, 0)) (bk_ BK430.out) hb); have n7_ := Aside0.mk (Zf hb_ hb); clear HO_4; clear HO_6; clear HO_431001; clear HO449; clear BK417; clear BK430; clear HB; have HO_4 := n0_; have HO_6 := n1_; have HO_431001 := n2_; have HO449 := n3_; have HO452 := n4_; have BK417 := n5_; have BK430 := n6_; have HB := n7_; clear n0_ n1_ n2_ n3_ n4_ n5_ n6_ n7_; (try clear hb); (try clear hb2); (try clear hk); (try clear hi); (try clear ho0); obtain ⟨Ao68, co68, eo68⟩ := Kd.S_slice HO452.out; subst eo68) | ((with_reducible refine Zg (f := 20) rfl ?_); refine Zw (some 59) rfl rfl Try.func20 (by kernel_rfl) rfl #[.slice Ao68 t450.length co68, .slice Ao33 t423.length co33] rfl ar_ ?_; (with_reducible refine (laws_eqIntSS.calls kj16 _ _ t450 _ _ t423 true _ ?side1 ?side2 ?side3 ?side4 A50.out).mono ?_); (case side1 => repeat (first | exact (Zq HO452.out).2.2 | (with_reducible refine Zs ?_ _) | (with_reducible refine Zr ?_ _) | (with_reducible refine Zt ?_))); (case side2 => exact (Zq HO452.out).2.1); (case side3 => repeat (first | exact (Kd.N_reads' HO_4.out).2.2 | (with_reducible refine Zs ?_ _) | (with_reducible refine Zr ?_ _) | (with_reducible refine Zt ?_))); (case side4 => exact (Kd.N_reads' HO_4.out).2.1); rintro e w' ⟨rfl, ⟨nd, rfl⟩⟩; refine ⟨_, rfl, ?_⟩) | ((with_reducible refine Zg (f := 23) rfl ?_); refine Zw (some 63) rfl rfl Try.func23 (by kernel_rfl) rfl #[.slice Ao32 t444.length co32, .int .i64 1] rfl (by (try simp only [List.map_toArray, List.map_cons, List.map_nil]); first | done | (rw [show t444.length = t431.length from (Zq HO_6.out).1.symm] <;> rfl) | rfl | (simp only [List.length_drop, List.length_take]; rfl)) ?_; (with_reducible refine (laws_heldIntSS.calls kj16 _ _ t444 1 t454 _ ?side1 ?side2 A52.out).mono ?_); (case side1 => repeat (first | exact (Zq HO_6.out).2.2 | (with_reducible refine Zs ?_ _) | (with_reducible refine Zr ?_ _) | (with_reducible refine Zt ?_))); (case side2 => rw [show t444.length = t431.length from (Zq HO_6.out).1.symm]; exact (Zq HO_6.out).2.1); rintro e w' ⟨rfl, ⟨nd, rfl⟩⟩; refine ⟨_, rfl, ?_⟩))
            all_goals go_ret
            all_goals exact ⟨er_, hb_⟩
           ·rw [if_neg c61] at H
            have c61b0 : (t454 == t443) = false := beq_eq_false_iff_ne.mpr c61
            have c61b1 : (t454 != t443) = true := bne_iff_ne.mpr c61
            obtain rfl := Option.some.inj H
            go_wp2_with (first | ((with_reducible refine Zg (f := 22) rfl ?_); refine Zw (some 45) rfl rfl Try.func22 (by kernel_rfl) rfl #[.slice Ao32 t431.length co32, .int .i64 1] rfl ar_ ?_; (with_reducible refine (laws_markIntSS.calls kj16 (fun W_ => SpOf (Kd.slice 3 (Kd.int .i64)) (fun k_ => (nsp_HO433 ≤ k_) ∧ k_ < nsp_HO438) W_ (fun k_ => (some k_ ≠ (.slice Ao33 t423.length co33 : Value).ownBlock ∧ some k_ ≠ (.slice Ao30 t441.length co30 : Value).ownBlock)) (.slice Ao32 t431.length co32)) (.slice Ao32 t431.length co32) t431 1 t443 t444 w _ ?side1 ?side2 A43.out).mono ?_); (case side1 => repeat (first | (with_reducible first | exact HB.out | apply below_alloc | apply pw_below_drewN | apply below_drew1 | refine below_set ?_ GE417.out | refine below_set ?_ GE430.out) | exact HB.out)); (case side2 => exact (S_ofSp (ZJ (ok' := fun k_ => (some k_ ≠ (.slice Ao33 t423.length co33 : Value).ownBlock ∧ some k_ ≠ (.slice Ao30 t441.length co30 : Value).ownBlock)) (HO_6.out) (fun k_ hk_ => by have h_ := hk_; (try simp only [true_and, and_assoc] at h_); (try simp only [true_and, and_assoc]); exact h_)))); rintro e w69 ⟨rfl, hy0, hb, hkp⟩; refine ⟨_, rfl, ?_⟩; have n0_ := Aside0.mk (N_besideSp (Zx (ok' := fun k_ => (some k_ ≠ (.slice Ao32 t431.length co32 : Value).ownBlock ∧ (some k_ ≠ (.slice Ao30 t441.length co30 : Value).ownBlock ∧ (k_ ≠ gb417 ∧ (k_ ≠ gb430 ∧ (k_ < nsp_HO429 ∧ (k_ < nsp_HO433 ∧ k_ < nsp_HO438))))))) (HO_4.out) (fun k_ hk_ => by have h_ := hk_; (try simp only [true_and, and_assoc] at h_); (try simp only [true_and, and_assoc]); first | exact h_ | ((repeat' apply And.intro) <;> first | exact h_.1 | exact h_.2 | exact h_.2.1 | exact h_.2.2 | exact h_.2.2.1 | exact h_.2.2.2 | exact h_.2.2.2.1 | exact h_.2.2.2.2 | exact h_.2.2.2.2.1 | exact h_.2.2.2.2.2 | exact h_.2.2.2.2.2.1 | exact h_.2.2.2.2.2.2 | exact h_.2.2.2.2.2.2.1 | exact h_.2.2.2.2.2.2.2 | exact h_.2.2.2.2.2.2.2.1 | exact h_.2.2.2.2.2.2.2.2 | exact h_.2.2.2.2.2.2.2.2.1 | exact h_.2.2.2.2.2.2.2.2.2 | exact h_.2.2.2.2.2.2.2.2.2.1 | exact h_.2.2.2.2.2.2.2.2.2.2 | exact h_.2.2.2.2.2.2.2.2.2.2.1 | exact h_.2.2.2.2.2.2.2.2.2.2.2 | exact h_.2.2.2.2.2.2.2.2.2.2.2.1 | exact h_.2.2.2.2.2.2.2.2.2.2.2.2))) hkp (fun k_ ha_ hb_ => by (try dsimp only at ha_ hb_); omega)); have n1_ := Aside0.mk (S_toSp hy0); have n2_ := Aside0.mk (S_besideSp (ZJ (ok' := fun k_ => (some k_ ≠ (.slice Ao33 t423.length co33 : Value).ownBlock ∧ some k_ ≠ (.slice Ao32 t431.length co32 : Value).ownBlock)) (HO_431001.out) (fun k_ hk_ => by have h_ := hk_; (try simp only [true_and, and_assoc] at h_); (try simp only [true_and, and_assoc]); exact h_)) hkp (fun k_ ha_ hb_ => by (try dsimp only at ha_ hb_); omega) (by first | decide | exact spE_ (by decide))); have n3_ := Aside0.mk (box_keptSp (g := gb417) (cs := #[.int .i64 a0_0, .slice A0_1 l0_1.length c0_1]) (t := 24) (bk_ BK417.out) hkp (by first | decide | exact spE_ (by decide))); have n4_ := Aside0.mk (box_keptSp (g := gb430) (cs := #[.int .i64 t426, .slice Ao30 t441.length co30]) (t := 27) (bk_ BK430.out) hkp (by first | decide | exact spE_ (by decide))); have n5_ := Aside0.mk (hb); clear HO_4; clear HO_6; clear HO_431001; clear BK417; clear BK430; clear HB; have HO_4 := n0_; have HO_6 := n1_; have HO_431001 := n2_; have BK417 := n3_; have BK430 := n4_; have HB := n5_; clear n0_ n1_ n2_ n3_ n4_ n5_; (try clear hb); (try clear hkp); (try clear hy0)) | ((with_reducible refine Zg (f := 23) rfl ?_); refine Zw (some 48) rfl rfl Try.func23 (by kernel_rfl) rfl #[.slice Ao32 t444.length co32, .int .i64 1] rfl (by (try simp only [List.map_toArray, List.map_cons, List.map_nil]); first | done | (rw [show t444.length = t431.length from (Zq HO_6.out).1.symm] <;> rfl) | rfl | (simp only [List.length_drop, List.length_take]; rfl)) ?_; (with_reducible refine (laws_heldIntSS.calls kj16 _ _ t444 1 t445 _ ?side1 ?side2 A44.out).mono ?_); (case side1 => repeat (first | exact (Zq HO_6.out).2.2 | (with_reducible refine Zs ?_ _) | (with_reducible refine Zr ?_ _) | (with_reducible refine Zt ?_))); (case side2 => rw [show t444.length = t431.length from (Zq HO_6.out).1.symm]; exact (Zq HO_6.out).2.1); rintro e w' ⟨rfl, ⟨nd, rfl⟩⟩; refine ⟨_, rfl, ?_⟩; have hnb70 := NB417_430.out; have hnc70 := NB430_417.out; have hcz71_0 : w69.cell? ⟨gb417, 0, none⟩ = some (.int .i64 a0_0) := (Ze BK417.out 0).trans rfl; have hcz71_1 : w69.cell? ⟨gb417, 1, none⟩ = some (.slice A0_1 l0_1.length c0_1) := (Ze BK417.out 1).trans rfl; have hfz71_0 := Zd BK417.out 0; have hfz71_1 := Zd BK417.out 1) | ((with_reducible refine Zg (f := 15) rfl ?_); refine Zw (some 55) rfl rfl Try.func15 (by kernel_rfl) rfl #[.agg #[.int .i64 a0_0, .slice A0_1 l0_1.length c0_1]] rfl ar_ ?_; (with_reducible refine (laws_toGraph.calls kj16 a0_0 _ _ l0_1 t446 t447 _ ?side1 ?side2 A48.out).mono ?_); (case side1 => repeat (first | exact (Kd.C_below HR0_1.out hb_) | (with_reducible refine Zs ?_ _) | (with_reducible refine Zr ?_ _) | (with_reducible refine Zt ?_))); (case side2 => exact HC0_1.out); rintro e w72 ⟨v448, rfl, ho0, hb⟩; refine ⟨_, rfl, ?_⟩; obtain ⟨nsp_HO449, hnsp_HO449, ho0⟩ := S_newSp ho0; have n0_ := Aside0.mk (Kd.N_elder' ((N_oldSp (rN_ HO_4.out) hnsp_HO449)) (ZG ho0) hb); have n1_ := Aside0.mk (ZH ((S_oldSp (rS_ HO_6.out) hnsp_HO449)) (ZG ho0) hb); have n2_ := Aside0.mk (ZH ((S_oldSp (rS_ HO_431001.out) hnsp_HO449)) (ZG ho0) hb); have n3_ := Aside0.mk (Kd.S_lower (ZF (ZF (ZF ho0 (Kd.N_lt (rN_ HO_4.out))) (Kd.S_lt (rS_ HO_6.out))) (Kd.S_lt (rS_ HO_431001.out))) (Zk hb_)); have n4_ := Aside0.mk (Zj (g := gb417) (o := .cells #[.int .i64 a0_0, .slice A0_1 l0_1.length c0_1] 24 (0, 0)) (bk_ BK417.out) hb); have n5_ := Aside0.mk (Zj (g := gb430) (o := .cells #[.int .i64 t426, .slice Ao30 t441.length co30] 27 (0, 0)) (bk_ BK430.out) hb); have n6_ := Aside0.mk (Zf hb_ hb); clear HO_4; clear HO_6; clear HO_431001; clear BK417; clear BK430; clear HB; have HO_4 := n0_; have HO_6 := n1_; have HO_431001 := n2_; have HO449 := n3_; have BK417 := n4_; have BK430 := n5_; have HB := n6_; clear n0_ n1_ n2_ n3_ n4_ n5_ n6_; (try clear hb); (try clear hb2); (try clear hk); (try clear hi); (try clear ho0); obtain ⟨Ao73, co73, eo73⟩ := Kd.S_slice HO449.out; subst eo73) | ((with_reducible refine Zg (f := 19) rfl ?_); refine Zw (some 56) rfl rfl Try.func19 (by kernel_rfl) rfl #[.agg #[.int .i64 t446, .slice Ao73 t447.length co73]] rfl ar_ ?_; (with_reducible refine (impl_Preferred.calls kj16 t446 _ _ t447 t450 _ ?side1 ?side2 A49.out).mono ?_); (case side1 => repeat (first | exact (Zq HO449.out).2.2 | (with_reducible refine Zs ?_ _) | (with_reducible refine Zr ?_ _) | (with_reducible refine Zt ?_))); (case side2 => exact (Zq HO449.out).2.1); rintro e w74 ⟨v451, rfl, ho0, hb⟩; refine ⟨_, rfl, ?_⟩; obtain ⟨nsp_HO452, hnsp_HO452, ho0⟩ := S_newSp ho0; have n0_ := Aside0.mk (Kd.N_elder' ((N_oldSp (rN_ HO_4.out) hnsp_HO452)) (ZG ho0) hb); have n1_ := Aside0.mk (ZH ((S_oldSp (rS_ HO_6.out) hnsp_HO452)) (ZG ho0) hb); have n2_ := Aside0.mk (ZH ((S_oldSp (rS_ HO_431001.out) hnsp_HO452)) (ZG ho0) hb); have n3_ := Aside0.mk (ZH ((S_oldSp (rS_ HO449.out) hnsp_HO452)) (ZG ho0) hb); have n4_ := Aside0.mk (Kd.S_lower (ZF (ZF (ZF (ZF ho0 (Kd.N_lt (rN_ HO_4.out))) (Kd.S_lt (rS_ HO_6.out))) (Kd.S_lt (rS_ HO_431001.out))) (Kd.S_lt (rS_ HO449.out))) (Zk hb_)); have n5_ := Aside0.mk (Zj (g := gb417) (o := .cells #[.int .i64 a0_0, .slice A0_1 l0_1.length c0_1] 24 (0, 0)) (bk_ BK417.out) hb); have n6_ := Aside0.mk (Zj (g := gb430) (o := .cells #[.int .i64 t426, .slice Ao30 t441.length co30] 27 (0, 0)) (bk_ BK430.out) hb); have n7_ := Aside0.mk (Zf hb_ hb); clear HO_4; clear HO_6; clear HO_431001; clear HO449; clear BK417; clear BK430; clear HB; have HO_4 := n0_; have HO_6 := n1_; have HO_431001 := n2_; have HO449 := n3_; have HO452 := n4_; have BK417 := n5_; have BK430 := n6_; have HB := n7_; clear n0_ n1_ n2_ n3_ n4_ n5_ n6_ n7_; (try clear hb); (try clear hb2); (try clear hk); (try clear hi); (try clear ho0); obtain ⟨Ao75, co75, eo75⟩ := Kd.S_slice HO452.out; subst eo75) | ((with_reducible refine Zg (f := 20) rfl ?_); refine Zw (some 59) rfl rfl Try.func20 (by kernel_rfl) rfl #[.slice Ao75 t450.length co75, .slice Ao33 t423.length co33] rfl ar_ ?_; (with_reducible refine (laws_eqIntSS.calls kj16 _ _ t450 _ _ t423 true _ ?side1 ?side2 ?side3 ?side4 A50.out).mono ?_); (case side1 => repeat (first | exact (Zq HO452.out).2.2 | (with_reducible refine Zs ?_ _) | (with_reducible refine Zr ?_ _) | (with_reducible refine Zt ?_))); (case side2 => exact (Zq HO452.out).2.1); (case side3 => repeat (first | exact (Kd.N_reads' HO_4.out).2.2 | (with_reducible refine Zs ?_ _) | (with_reducible refine Zr ?_ _) | (with_reducible refine Zt ?_))); (case side4 => exact (Kd.N_reads' HO_4.out).2.1); rintro e w' ⟨rfl, ⟨nd, rfl⟩⟩; refine ⟨_, rfl, ?_⟩) | ((with_reducible refine Zg (f := 23) rfl ?_); refine Zw (some 63) rfl rfl Try.func23 (by kernel_rfl) rfl #[.slice Ao32 t444.length co32, .int .i64 1] rfl (by (try simp only [List.map_toArray, List.map_cons, List.map_nil]); first | done | (rw [show t444.length = t431.length from (Zq HO_6.out).1.symm] <;> rfl) | rfl | (simp only [List.length_drop, List.length_take]; rfl)) ?_; (with_reducible refine (laws_heldIntSS.calls kj16 _ _ t444 1 t454 _ ?side1 ?side2 A52.out).mono ?_); (case side1 => repeat (first | exact (Zq HO_6.out).2.2 | (with_reducible refine Zs ?_ _) | (with_reducible refine Zr ?_ _) | (with_reducible refine Zt ?_))); (case side2 => rw [show t444.length = t431.length from (Zq HO_6.out).1.symm]; exact (Zq HO_6.out).2.1); rintro e w' ⟨rfl, ⟨nd, rfl⟩⟩; refine ⟨_, rfl, ?_⟩))
            all_goals go_ret
            all_goals exact ⟨er_, hb_⟩
         ·replace c51 := Bool.eq_false_iff.mpr c51
          subst c51
          have H1 : (some false) = some r := by rw [if_neg (show ¬ (false = true) by decide)] at H; exact H
          clear H
          have H := H1
          clear H1
          obtain rfl := Option.some.inj H
          go_wp2_with (first | ((with_reducible refine Zg (f := 22) rfl ?_); refine Zw (some 45) rfl rfl Try.func22 (by kernel_rfl) rfl #[.slice Ao32 t431.length co32, .int .i64 1] rfl ar_ ?_; (with_reducible refine (laws_markIntSS.calls kj16 (fun W_ => SpOf (Kd.slice 3 (Kd.int .i64)) (fun k_ => (nsp_HO433 ≤ k_) ∧ k_ < nsp_HO438) W_ (fun k_ => (some k_ ≠ (.slice Ao33 t423.length co33 : Value).ownBlock ∧ some k_ ≠ (.slice Ao30 t441.length co30 : Value).ownBlock)) (.slice Ao32 t431.length co32)) (.slice Ao32 t431.length co32) t431 1 t443 t444 w _ ?side1 ?side2 A43.out).mono ?_); (case side1 => repeat (first | (with_reducible first | exact HB.out | apply below_alloc | apply pw_below_drewN | apply below_drew1 | refine below_set ?_ GE417.out | refine below_set ?_ GE430.out) | exact HB.out)); (case side2 => exact (S_ofSp (ZJ (ok' := fun k_ => (some k_ ≠ (.slice Ao33 t423.length co33 : Value).ownBlock ∧ some k_ ≠ (.slice Ao30 t441.length co30 : Value).ownBlock)) (HO_6.out) (fun k_ hk_ => by have h_ := hk_; (try simp only [true_and, and_assoc] at h_); (try simp only [true_and, and_assoc]); exact h_)))); rintro e w76 ⟨rfl, hy0, hb, hkp⟩; refine ⟨_, rfl, ?_⟩; have n0_ := Aside0.mk (N_besideSp (Zx (ok' := fun k_ => (some k_ ≠ (.slice Ao32 t431.length co32 : Value).ownBlock ∧ (some k_ ≠ (.slice Ao30 t441.length co30 : Value).ownBlock ∧ (k_ ≠ gb417 ∧ (k_ ≠ gb430 ∧ (k_ < nsp_HO429 ∧ (k_ < nsp_HO433 ∧ k_ < nsp_HO438))))))) (HO_4.out) (fun k_ hk_ => by have h_ := hk_; (try simp only [true_and, and_assoc] at h_); (try simp only [true_and, and_assoc]); first | exact h_ | ((repeat' apply And.intro) <;> first | exact h_.1 | exact h_.2 | exact h_.2.1 | exact h_.2.2 | exact h_.2.2.1 | exact h_.2.2.2 | exact h_.2.2.2.1 | exact h_.2.2.2.2 | exact h_.2.2.2.2.1 | exact h_.2.2.2.2.2 | exact h_.2.2.2.2.2.1 | exact h_.2.2.2.2.2.2 | exact h_.2.2.2.2.2.2.1 | exact h_.2.2.2.2.2.2.2 | exact h_.2.2.2.2.2.2.2.1 | exact h_.2.2.2.2.2.2.2.2 | exact h_.2.2.2.2.2.2.2.2.1 | exact h_.2.2.2.2.2.2.2.2.2 | exact h_.2.2.2.2.2.2.2.2.2.1 | exact h_.2.2.2.2.2.2.2.2.2.2 | exact h_.2.2.2.2.2.2.2.2.2.2.1 | exact h_.2.2.2.2.2.2.2.2.2.2.2 | exact h_.2.2.2.2.2.2.2.2.2.2.2.1 | exact h_.2.2.2.2.2.2.2.2.2.2.2.2))) hkp (fun k_ ha_ hb_ => by (try dsimp only at ha_ hb_); omega)); have n1_ := Aside0.mk (S_toSp hy0); have n2_ := Aside0.mk (S_besideSp (ZJ (ok' := fun k_ => (some k_ ≠ (.slice Ao33 t423.length co33 : Value).ownBlock ∧ some k_ ≠ (.slice Ao32 t431.length co32 : Value).ownBlock)) (HO_431001.out) (fun k_ hk_ => by have h_ := hk_; (try simp only [true_and, and_assoc] at h_); (try simp only [true_and, and_assoc]); exact h_)) hkp (fun k_ ha_ hb_ => by (try dsimp only at ha_ hb_); omega) (by first | decide | exact spE_ (by decide))); have n3_ := Aside0.mk (box_keptSp (g := gb417) (cs := #[.int .i64 a0_0, .slice A0_1 l0_1.length c0_1]) (t := 24) (bk_ BK417.out) hkp (by first | decide | exact spE_ (by decide))); have n4_ := Aside0.mk (box_keptSp (g := gb430) (cs := #[.int .i64 t426, .slice Ao30 t441.length co30]) (t := 27) (bk_ BK430.out) hkp (by first | decide | exact spE_ (by decide))); have n5_ := Aside0.mk (hb); clear HO_4; clear HO_6; clear HO_431001; clear BK417; clear BK430; clear HB; have HO_4 := n0_; have HO_6 := n1_; have HO_431001 := n2_; have BK417 := n3_; have BK430 := n4_; have HB := n5_; clear n0_ n1_ n2_ n3_ n4_ n5_; (try clear hb); (try clear hkp); (try clear hy0)) | ((with_reducible refine Zg (f := 23) rfl ?_); refine Zw (some 48) rfl rfl Try.func23 (by kernel_rfl) rfl #[.slice Ao32 t444.length co32, .int .i64 1] rfl (by (try simp only [List.map_toArray, List.map_cons, List.map_nil]); first | done | (rw [show t444.length = t431.length from (Zq HO_6.out).1.symm] <;> rfl) | rfl | (simp only [List.length_drop, List.length_take]; rfl)) ?_; (with_reducible refine (laws_heldIntSS.calls kj16 _ _ t444 1 t445 _ ?side1 ?side2 A44.out).mono ?_); (case side1 => repeat (first | exact (Zq HO_6.out).2.2 | (with_reducible refine Zs ?_ _) | (with_reducible refine Zr ?_ _) | (with_reducible refine Zt ?_))); (case side2 => rw [show t444.length = t431.length from (Zq HO_6.out).1.symm]; exact (Zq HO_6.out).2.1); rintro e w' ⟨rfl, ⟨nd, rfl⟩⟩; refine ⟨_, rfl, ?_⟩; have hnb77 := NB417_430.out; have hnc77 := NB430_417.out; have hcz78_0 : w76.cell? ⟨gb417, 0, none⟩ = some (.int .i64 a0_0) := (Ze BK417.out 0).trans rfl; have hcz78_1 : w76.cell? ⟨gb417, 1, none⟩ = some (.slice A0_1 l0_1.length c0_1) := (Ze BK417.out 1).trans rfl; have hfz78_0 := Zd BK417.out 0; have hfz78_1 := Zd BK417.out 1) | ((with_reducible refine Zg (f := 15) rfl ?_); refine Zw (some 55) rfl rfl Try.func15 (by kernel_rfl) rfl #[.agg #[.int .i64 a0_0, .slice A0_1 l0_1.length c0_1]] rfl ar_ ?_; (with_reducible refine (laws_toGraph.calls kj16 a0_0 _ _ l0_1 t446 t447 _ ?side1 ?side2 A48.out).mono ?_); (case side1 => repeat (first | exact (Kd.C_below HR0_1.out hb_) | (with_reducible refine Zs ?_ _) | (with_reducible refine Zr ?_ _) | (with_reducible refine Zt ?_))); (case side2 => exact HC0_1.out); rintro e w79 ⟨v448, rfl, ho0, hb⟩; refine ⟨_, rfl, ?_⟩; obtain ⟨nsp_HO449, hnsp_HO449, ho0⟩ := S_newSp ho0; have n0_ := Aside0.mk (Kd.N_elder' ((N_oldSp (rN_ HO_4.out) hnsp_HO449)) (ZG ho0) hb); have n1_ := Aside0.mk (ZH ((S_oldSp (rS_ HO_6.out) hnsp_HO449)) (ZG ho0) hb); have n2_ := Aside0.mk (ZH ((S_oldSp (rS_ HO_431001.out) hnsp_HO449)) (ZG ho0) hb); have n3_ := Aside0.mk (Kd.S_lower (ZF (ZF (ZF ho0 (Kd.N_lt (rN_ HO_4.out))) (Kd.S_lt (rS_ HO_6.out))) (Kd.S_lt (rS_ HO_431001.out))) (Zk hb_)); have n4_ := Aside0.mk (Zj (g := gb417) (o := .cells #[.int .i64 a0_0, .slice A0_1 l0_1.length c0_1] 24 (0, 0)) (bk_ BK417.out) hb); have n5_ := Aside0.mk (Zj (g := gb430) (o := .cells #[.int .i64 t426, .slice Ao30 t441.length co30] 27 (0, 0)) (bk_ BK430.out) hb); have n6_ := Aside0.mk (Zf hb_ hb); clear HO_4; clear HO_6; clear HO_431001; clear BK417; clear BK430; clear HB; have HO_4 := n0_; have HO_6 := n1_; have HO_431001 := n2_; have HO449 := n3_; have BK417 := n4_; have BK430 := n5_; have HB := n6_; clear n0_ n1_ n2_ n3_ n4_ n5_ n6_; (try clear hb); (try clear hb2); (try clear hk); (try clear hi); (try clear ho0); obtain ⟨Ao80, co80, eo80⟩ := Kd.S_slice HO449.out; subst eo80) | ((with_reducible refine Zg (f := 19) rfl ?_); refine Zw (some 56) rfl rfl Try.func19 (by kernel_rfl) rfl #[.agg #[.int .i64 t446, .slice Ao80 t447.length co80]] rfl ar_ ?_; (with_reducible refine (impl_Preferred.calls kj16 t446 _ _ t447 t450 _ ?side1 ?side2 A49.out).mono ?_); (case side1 => repeat (first | exact (Zq HO449.out).2.2 | (with_reducible refine Zs ?_ _) | (with_reducible refine Zr ?_ _) | (with_reducible refine Zt ?_))); (case side2 => exact (Zq HO449.out).2.1); rintro e w81 ⟨v451, rfl, ho0, hb⟩; refine ⟨_, rfl, ?_⟩; obtain ⟨nsp_HO452, hnsp_HO452, ho0⟩ := S_newSp ho0; have n0_ := Aside0.mk (Kd.N_elder' ((N_oldSp (rN_ HO_4.out) hnsp_HO452)) (ZG ho0) hb); have n1_ := Aside0.mk (ZH ((S_oldSp (rS_ HO_6.out) hnsp_HO452)) (ZG ho0) hb); have n2_ := Aside0.mk (ZH ((S_oldSp (rS_ HO_431001.out) hnsp_HO452)) (ZG ho0) hb); have n3_ := Aside0.mk (ZH ((S_oldSp (rS_ HO449.out) hnsp_HO452)) (ZG ho0) hb); have n4_ := Aside0.mk (Kd.S_lower (ZF (ZF (ZF (ZF ho0 (Kd.N_lt (rN_ HO_4.out))) (Kd.S_lt (rS_ HO_6.out))) (Kd.S_lt (rS_ HO_431001.out))) (Kd.S_lt (rS_ HO449.out))) (Zk hb_)); have n5_ := Aside0.mk (Zj (g := gb417) (o := .cells #[.int .i64 a0_0, .slice A0_1 l0_1.length c0_1] 24 (0, 0)) (bk_ BK417.out) hb); have n6_ := Aside0.mk (Zj (g := gb430) (o := .cells #[.int .i64 t426, .slice Ao30 t441.length co30] 27 (0, 0)) (bk_ BK430.out) hb); have n7_ := Aside0.mk (Zf hb_ hb); clear HO_4; clear HO_6; clear HO_431001; clear HO449; clear BK417; clear BK430; clear HB; have HO_4 := n0_; have HO_6 := n1_; have HO_431001 := n2_; have HO449 := n3_; have HO452 := n4_; have BK417 := n5_; have BK430 := n6_; have HB := n7_; clear n0_ n1_ n2_ n3_ n4_ n5_ n6_ n7_; (try clear hb); (try clear hb2); (try clear hk); (try clear hi); (try clear ho0); obtain ⟨Ao82, co82, eo82⟩ := Kd.S_slice HO452.out; subst eo82) | ((with_reducible refine Zg (f := 20) rfl ?_); refine Zw (some 59) rfl rfl Try.func20 (by kernel_rfl) rfl #[.slice Ao82 t450.length co82, .slice Ao33 t423.length co33] rfl ar_ ?_; (with_reducible refine (laws_eqIntSS.calls kj16 _ _ t450 _ _ t423 false _ ?side1 ?side2 ?side3 ?side4 A50.out).mono ?_); (case side1 => repeat (first | exact (Zq HO452.out).2.2 | (with_reducible refine Zs ?_ _) | (with_reducible refine Zr ?_ _) | (with_reducible refine Zt ?_))); (case side2 => exact (Zq HO452.out).2.1); (case side3 => repeat (first | exact (Kd.N_reads' HO_4.out).2.2 | (with_reducible refine Zs ?_ _) | (with_reducible refine Zr ?_ _) | (with_reducible refine Zt ?_))); (case side4 => exact (Kd.N_reads' HO_4.out).2.1); rintro e w' ⟨rfl, ⟨nd, rfl⟩⟩; refine ⟨_, rfl, ?_⟩))
          all_goals go_ret
          all_goals exact ⟨er_, hb_⟩
        ·rw [if_neg c47] at H
         have c47b0 : (t445 == t443) = false := beq_eq_false_iff_ne.mpr c47
         have c47b1 : (t445 != t443) = true := bne_iff_ne.mpr c47
         obtain rfl := Option.some.inj H
         go_wp2_with (first | ((with_reducible refine Zg (f := 22) rfl ?_); refine Zw (some 45) rfl rfl Try.func22 (by kernel_rfl) rfl #[.slice Ao32 t431.length co32, .int .i64 1] rfl ar_ ?_; (with_reducible refine (laws_markIntSS.calls kj16 (fun W_ => SpOf (Kd.slice 3 (Kd.int .i64)) (fun k_ => (nsp_HO433 ≤ k_) ∧ k_ < nsp_HO438) W_ (fun k_ => (some k_ ≠ (.slice Ao33 t423.length co33 : Value).ownBlock ∧ some k_ ≠ (.slice Ao30 t441.length co30 : Value).ownBlock)) (.slice Ao32 t431.length co32)) (.slice Ao32 t431.length co32) t431 1 t443 t444 w _ ?side1 ?side2 A43.out).mono ?_); (case side1 => repeat (first | (with_reducible first | exact HB.out | apply below_alloc | apply pw_below_drewN | apply below_drew1 | refine below_set ?_ GE417.out | refine below_set ?_ GE430.out) | exact HB.out)); (case side2 => exact (S_ofSp (ZJ (ok' := fun k_ => (some k_ ≠ (.slice Ao33 t423.length co33 : Value).ownBlock ∧ some k_ ≠ (.slice Ao30 t441.length co30 : Value).ownBlock)) (HO_6.out) (fun k_ hk_ => by have h_ := hk_; (try simp only [true_and, and_assoc] at h_); (try simp only [true_and, and_assoc]); exact h_)))); rintro e w83 ⟨rfl, hy0, hb, hkp⟩; refine ⟨_, rfl, ?_⟩; have n0_ := Aside0.mk (N_besideSp (Zx (ok' := fun k_ => (some k_ ≠ (.slice Ao32 t431.length co32 : Value).ownBlock ∧ (some k_ ≠ (.slice Ao30 t441.length co30 : Value).ownBlock ∧ (k_ ≠ gb417 ∧ (k_ ≠ gb430 ∧ (k_ < nsp_HO429 ∧ (k_ < nsp_HO433 ∧ k_ < nsp_HO438))))))) (HO_4.out) (fun k_ hk_ => by have h_ := hk_; (try simp only [true_and, and_assoc] at h_); (try simp only [true_and, and_assoc]); first | exact h_ | ((repeat' apply And.intro) <;> first | exact h_.1 | exact h_.2 | exact h_.2.1 | exact h_.2.2 | exact h_.2.2.1 | exact h_.2.2.2 | exact h_.2.2.2.1 | exact h_.2.2.2.2 | exact h_.2.2.2.2.1 | exact h_.2.2.2.2.2 | exact h_.2.2.2.2.2.1 | exact h_.2.2.2.2.2.2 | exact h_.2.2.2.2.2.2.1 | exact h_.2.2.2.2.2.2.2 | exact h_.2.2.2.2.2.2.2.1 | exact h_.2.2.2.2.2.2.2.2 | exact h_.2.2.2.2.2.2.2.2.1 | exact h_.2.2.2.2.2.2.2.2.2 | exact h_.2.2.2.2.2.2.2.2.2.1 | exact h_.2.2.2.2.2.2.2.2.2.2 | exact h_.2.2.2.2.2.2.2.2.2.2.1 | exact h_.2.2.2.2.2.2.2.2.2.2.2 | exact h_.2.2.2.2.2.2.2.2.2.2.2.1 | exact h_.2.2.2.2.2.2.2.2.2.2.2.2))) hkp (fun k_ ha_ hb_ => by (try dsimp only at ha_ hb_); omega)); have n1_ := Aside0.mk (S_toSp hy0); have n2_ := Aside0.mk (S_besideSp (ZJ (ok' := fun k_ => (some k_ ≠ (.slice Ao33 t423.length co33 : Value).ownBlock ∧ some k_ ≠ (.slice Ao32 t431.length co32 : Value).ownBlock)) (HO_431001.out) (fun k_ hk_ => by have h_ := hk_; (try simp only [true_and, and_assoc] at h_); (try simp only [true_and, and_assoc]); exact h_)) hkp (fun k_ ha_ hb_ => by (try dsimp only at ha_ hb_); omega) (by first | decide | exact spE_ (by decide))); have n3_ := Aside0.mk (box_keptSp (g := gb417) (cs := #[.int .i64 a0_0, .slice A0_1 l0_1.length c0_1]) (t := 24) (bk_ BK417.out) hkp (by first | decide | exact spE_ (by decide))); have n4_ := Aside0.mk (box_keptSp (g := gb430) (cs := #[.int .i64 t426, .slice Ao30 t441.length co30]) (t := 27) (bk_ BK430.out) hkp (by first | decide | exact spE_ (by decide))); have n5_ := Aside0.mk (hb); clear HO_4; clear HO_6; clear HO_431001; clear BK417; clear BK430; clear HB; have HO_4 := n0_; have HO_6 := n1_; have HO_431001 := n2_; have BK417 := n3_; have BK430 := n4_; have HB := n5_; clear n0_ n1_ n2_ n3_ n4_ n5_; (try clear hb); (try clear hkp); (try clear hy0)) | ((with_reducible refine Zg (f := 23) rfl ?_); refine Zw (some 48) rfl rfl Try.func23 (by kernel_rfl) rfl #[.slice Ao32 t444.length co32, .int .i64 1] rfl (by (try simp only [List.map_toArray, List.map_cons, List.map_nil]); first | done | (rw [show t444.length = t431.length from (Zq HO_6.out).1.symm] <;> rfl) | rfl | (simp only [List.length_drop, List.length_take]; rfl)) ?_; (with_reducible refine (laws_heldIntSS.calls kj16 _ _ t444 1 t445 _ ?side1 ?side2 A44.out).mono ?_); (case side1 => repeat (first | exact (Zq HO_6.out).2.2 | (with_reducible refine Zs ?_ _) | (with_reducible refine Zr ?_ _) | (with_reducible refine Zt ?_))); (case side2 => rw [show t444.length = t431.length from (Zq HO_6.out).1.symm]; exact (Zq HO_6.out).2.1); rintro e w' ⟨rfl, ⟨nd, rfl⟩⟩; refine ⟨_, rfl, ?_⟩))
         all_goals go_ret
         all_goals exact ⟨er_, hb_⟩
   ·replace c15 := Bool.eq_false_iff.mpr c15
    subst c15
    have H1 : (some false) = some r := by rw [if_neg (show ¬ (false = true) by decide)] at H; exact H
    clear H
    have H := H1
    clear H1
    obtain rfl := Option.some.inj H
    go_enter Try.func4, Try.ntmps4
    try go_wp2_with (first | ((with_reducible refine Zy (N := 1) rfl ?_); refine Zz ?hg (N := 1) ?hd (cs := #[.int .i64 a0_0, .slice A0_1 l0_1.length c0_1]) (t := 24) ?hr ?_; (case hd => rfl); (case hg => rfl); (case hr => first | (go_simp; done) | (go_simp; rfl)); intro gb417 hg w84 hbox hb; have n0_ := Aside0.mk (Zf hb_ hb); have n1_ := Aside0.mk (hbox); have n2_ := Aside0.mk ((hz_ hg : w.heap.size ≤ gb417)); have n3_ := Aside0.mk ((hz_ hg : w.heap.size ≤ gb417)); clear HB; have HB := n0_; have BK417 := n1_; have GW417 := n2_; have GE417 := n3_; clear n0_ n1_ n2_ n3_; clear hb hbox hg; have hcz85_0 : w84.cell? ⟨gb417, 0, none⟩ = some (.int .i64 a0_0) := (Ze BK417.out 0).trans rfl; have hcz85_1 : w84.cell? ⟨gb417, 1, none⟩ = some (.slice A0_1 l0_1.length c0_1) := (Ze BK417.out 1).trans rfl; have hfz85_0 := Zd BK417.out 0; have hfz85_1 := Zd BK417.out 1) | ((with_reducible refine Zg (f := 13) rfl ?_); refine Zw (some 13) rfl rfl Try.func13 (by kernel_rfl) rfl #[.agg #[.int .i64 a0_0, .slice A0_1 l0_1.length c0_1], .int .i64 1048576] rfl ar_ ?_; (with_reducible refine (laws_szGraph.calls k a0_0 _ _ l0_1 1048576 t418 _ ?side1 ?side2 A2.out).mono ?_); (case side1 => exact cb_ HR0_1.out); (case side2 => exact HC0_1.out); rintro e w86 ⟨rfl, hb⟩; refine ⟨_, rfl, ?_⟩; have n0_ := Aside0.mk (Zj (g := gb417) (o := .cells #[.int .i64 a0_0, .slice A0_1 l0_1.length c0_1] 24 (0, 0)) (bk_ BK417.out) hb); have n1_ := Aside0.mk (Zf hb_ hb); clear BK417; clear HB; have BK417 := n0_; have HB := n1_; clear n0_ n1_; (try clear hb); (try clear hb2); (try clear hk); (try clear hi); have hcz87_0 : w86.cell? ⟨gb417, 0, none⟩ = some (.int .i64 a0_0) := (Ze BK417.out 0).trans rfl; have hcz87_1 : w86.cell? ⟨gb417, 1, none⟩ = some (.slice A0_1 l0_1.length c0_1) := (Ze BK417.out 1).trans rfl; have hfz87_0 := Zd BK417.out 0; have hfz87_1 := Zd BK417.out 1) | ((with_reducible refine Zg (f := 15) rfl ?_); refine Zw (some 17) rfl rfl Try.func15 (by kernel_rfl) rfl #[.agg #[.int .i64 a0_0, .slice A0_1 l0_1.length c0_1]] rfl ar_ ?_; (with_reducible refine (laws_toGraph.calls k a0_0 _ _ l0_1 t419 t420 _ ?side1 ?side2 A7.out).mono ?_); (case side1 => exact cb_ HR0_1.out); (case side2 => exact HC0_1.out); rintro e w88 ⟨v421, rfl, ho0, hb⟩; refine ⟨_, rfl, ?_⟩; obtain ⟨nsp_HO422, hnsp_HO422, ho0⟩ := S_newSp ho0; have n0_ := Aside0.mk (Kd.S_lower ho0 (Zk hb_)); have n1_ := Aside0.mk (Zj (g := gb417) (o := .cells #[.int .i64 a0_0, .slice A0_1 l0_1.length c0_1] 24 (0, 0)) (bk_ BK417.out) hb); have n2_ := Aside0.mk (Zf hb_ hb); clear BK417; clear HB; have HO422 := n0_; have BK417 := n1_; have HB := n2_; clear n0_ n1_ n2_; (try clear hb); (try clear hb2); (try clear hk); (try clear hi); (try clear ho0); obtain ⟨Ao89, co89, eo89⟩ := Kd.S_slice HO422.out; subst eo89) | ((with_reducible refine Zg (f := 18) rfl ?_); refine Zw (some 18) rfl rfl Try.func18 (by kernel_rfl) rfl #[.agg #[.int .i64 t419, .slice Ao89 t420.length co89]] rfl ar_ ?_; (with_reducible refine (spec_Preferred.calls k t419 _ _ t420 t423 _ ?side1 ?side2 A8.out).mono ?_); (case side1 => repeat (first | exact (Zq HO422.out).2.2 | (with_reducible refine Zs ?_ _) | (with_reducible refine Zr ?_ _) | (with_reducible refine Zt ?_))); (case side2 => exact (Zq HO422.out).2.1); rintro e w90 ⟨v424, rfl, ho0, hb⟩; refine ⟨_, rfl, ?_⟩; have n0_ := Aside0.mk (ZH (rS_ HO422.out) (Kd.N_base ho0) hb); have n1_ := Aside0.mk (Kd.N_lower (Zx (ok' := fun k_ => some k_ ≠ (.slice Ao89 t420.length co89 : Value).ownBlock ∧ k_ ≠ gb417) ho0 (fun k_ hk_ => ⟨(Kd.fresh' (Kd.S_lt (rS_ HO422.out)) k_ hk_), (Kd.freshB (g := gb417) (o := .cells #[.int .i64 a0_0, .slice A0_1 l0_1.length c0_1] 24 (0, 0)) (bk_ BK417.out) k_ hk_)⟩)) (Zk hb_)); have n2_ := Aside0.mk (Zj (g := gb417) (o := .cells #[.int .i64 a0_0, .slice A0_1 l0_1.length c0_1] 24 (0, 0)) (bk_ BK417.out) hb); have n3_ := Aside0.mk (Zf hb_ hb); clear HO422; clear BK417; clear HB; have HO422 := n0_; have HO425 := n1_; have BK417 := n2_; have HB := n3_; clear n0_ n1_ n2_ n3_; (try clear hb); (try clear hb2); (try clear hk); (try clear hi); (try clear ho0); have hcz91_0 : w90.cell? ⟨gb417, 0, none⟩ = some (.int .i64 a0_0) := (Ze BK417.out 0).trans rfl; have hcz91_1 : w90.cell? ⟨gb417, 1, none⟩ = some (.slice A0_1 l0_1.length c0_1) := (Ze BK417.out 1).trans rfl; have hfz91_0 := Zd BK417.out 0; have hfz91_1 := Zd BK417.out 1) | ((with_reducible refine Zg (f := 15) rfl ?_); refine Zw (some 20) rfl rfl Try.func15 (by kernel_rfl) rfl #[.agg #[.int .i64 a0_0, .slice A0_1 l0_1.length c0_1]] rfl ar_ ?_; (with_reducible refine (laws_toGraph.calls k a0_0 _ _ l0_1 t426 t427 _ ?side1 ?side2 A9.out).mono ?_); (case side1 => exact cb_ HR0_1.out); (case side2 => exact HC0_1.out); rintro e w92 ⟨v428, rfl, ho0, hb⟩; refine ⟨_, rfl, ?_⟩; obtain ⟨nsp_HO429, hnsp_HO429, ho0⟩ := S_newSp ho0; have n0_ := Aside0.mk (ZH ((S_oldSp (rS_ HO422.out) hnsp_HO429)) (ZG ho0) hb); have n1_ := Aside0.mk (Kd.N_elder' ((N_oldSp (rN_ HO425.out) hnsp_HO429)) (ZG ho0) hb); have n2_ := Aside0.mk (Kd.S_lower (ZF (ZF ho0 (Kd.S_lt (rS_ HO422.out))) (Kd.N_lt (rN_ HO425.out))) (Zk hb_)); have n3_ := Aside0.mk (Zj (g := gb417) (o := .cells #[.int .i64 a0_0, .slice A0_1 l0_1.length c0_1] 24 (0, 0)) (bk_ BK417.out) hb); have n4_ := Aside0.mk (Zf hb_ hb); clear HO422; clear HO425; clear BK417; clear HB; have HO422 := n0_; have HO425 := n1_; have HO429 := n2_; have BK417 := n3_; have HB := n4_; clear n0_ n1_ n2_ n3_ n4_; (try clear hb); (try clear hb2); (try clear hk); (try clear hi); (try clear ho0)) | ((with_reducible refine Zy (N := 5) rfl ?_); refine Zz ?hg (N := 5) ?hd (cs := #[.int .i64 0, .slice none 0 0]) (t := 27) ?hr ?_; (case hd => rfl); (case hg => rfl); (case hr => first | (go_simp; done) | (go_simp; rfl)); intro gb430 hg w93 hbox hb; have n0_ := Aside0.mk (Kd.S_below (rS_ HO422.out) hb); have n1_ := Aside0.mk (Kd.N_below (Kd.N_elderB (rN_ HO425.out) gb430 (Nat.le_of_eq hg.symm)) hb); have n2_ := Aside0.mk (Kd.S_below (rS_ HO429.out) hb); have n3_ := Aside0.mk (Zj (g := gb417) (o := .cells #[.int .i64 a0_0, .slice A0_1 l0_1.length c0_1] 24 (0, 0)) (bk_ BK417.out) hb); have n4_ := Aside0.mk (Zf hb_ hb); have n5_ := Aside0.mk (hbox); have n6_ := Aside0.mk ((hz_ hg : w.heap.size ≤ gb430)); have n7_ := Aside0.mk ((hz_ hg : w.heap.size ≤ gb430)); have n8_ := Aside0.mk ((by rw [hg]; exact Nat.ne_of_lt (blk_lt (g := gb417) (o := .cells #[.int .i64 a0_0, .slice A0_1 l0_1.length c0_1] 24 (0, 0)) (bk_ BK417.out)) : gb417 ≠ gb430)); have n9_ := Aside0.mk ((by rw [hg]; exact Nat.ne_of_gt (blk_lt (g := gb417) (o := .cells #[.int .i64 a0_0, .slice A0_1 l0_1.length c0_1] 24 (0, 0)) (bk_ BK417.out)) : gb430 ≠ gb417)); clear HO422; clear HO425; clear HO429; clear BK417; clear HB; have HO422 := n0_; have HO425 := n1_; have HO429 := n2_; have BK417 := n3_; have HB := n4_; have BK430 := n5_; have GW430 := n6_; have GE430 := n7_; have NB417_430 := n8_; have NB430_417 := n9_; clear n0_ n1_ n2_ n3_ n4_ n5_ n6_ n7_ n8_ n9_; clear hb hbox hg; have hnb94 := NB430_417.out; have hnc94 := NB417_430.out; have hcz95_0 : w93.cell? ⟨gb430, 0, none⟩ = some (.int .i64 0) := (Ze BK430.out 0).trans rfl; have hcz95_1 : w93.cell? ⟨gb430, 1, none⟩ = some (.slice none 0 0) := (Ze BK430.out 1).trans rfl; have hfz95_0 := Zd BK430.out 0; have hfz95_1 := Zd BK430.out 1; obtain ⟨Ao96, co96, eo96⟩ := Kd.S_slice HO429.out; subst eo96) | ((with_reducible refine Zg (f := 19) rfl ?_); refine Zw (some 22) rfl rfl Try.func19 (by kernel_rfl) rfl #[.agg #[.int .i64 t426, .slice Ao96 t427.length co96]] rfl ar_ ?_; (with_reducible refine (impl_Preferred.calls k t426 _ _ t427 t431 _ ?side1 ?side2 A10.out).mono ?_); (case side1 => exact (S_readsSp (e := 38) (base := w.heap.size) (ok := fun k_ => ((True ∧ some k_ ≠ (.slice Ao89 t420.length co89 : Value).ownBlock) ∧ some k_ ≠ (v424 : Value).ownBlock)) (n := t427.length) (c := co96) (by (with_reducible repeat (first | apply Kd.S_alloc | apply Kd.S_drewN | apply Kd.S_drew)); exact (ZJ (Kd.S_far (p := ⟨gb430, 1, none⟩) (Kd.S_far (p := ⟨gb430, 0, none⟩) (Kd.S_types HO429.out BK430.out (by first | decide | exact spE_ (by decide))) (fun _ hk => hk.2) (.int .i64 t426)) (fun _ hk => hk.2) (.slice Ao96 t427.length co96)) (fun _ h_ => h_.1)))).2.2); (case side2 => exact (Zq HO429.out).2.1); rintro e w97 ⟨v432, rfl, ho0, hb⟩; refine ⟨_, rfl, ?_⟩; obtain ⟨nsp_HO433, hnsp_HO433, ho0⟩ := S_newSp ho0; have n0_ := Aside0.mk (ZH ((S_oldSp (by (with_reducible repeat (first | apply Kd.S_alloc | apply Kd.S_drewN | apply Kd.S_drew)); exact (ZJ (Kd.S_far (p := ⟨gb430, 1, none⟩) (Kd.S_far (p := ⟨gb430, 0, none⟩) (Kd.S_types HO422.out BK430.out (by first | decide | exact spE_ (by decide))) (fun _ hk => hk.2) (.int .i64 t426)) (fun _ hk => hk.2) (.slice Ao96 t427.length co96)) (fun _ h_ => h_.1))) hnsp_HO433)) (ZG ho0) hb); have n1_ := Aside0.mk (Kd.N_elder' ((N_oldSp (by (with_reducible repeat (first | apply ZB | apply ZA | apply ZC)); exact (Zx (Kd.N_far (p := ⟨gb430, 1, none⟩) (Kd.N_far (p := ⟨gb430, 0, none⟩) (Zx HO425.out (fun k_ hk => (⟨hk, hk.2⟩ : _ ∧ k_ ≠ gb430))) (fun _ hk => hk.2) (.int .i64 t426)) (fun _ hk => hk.2) (.slice Ao96 t427.length co96)) (fun _ h_ => h_.1))) hnsp_HO433)) (ZG ho0) hb); have n2_ := Aside0.mk (ZH ((S_oldSp (by (with_reducible repeat (first | apply Kd.S_alloc | apply Kd.S_drewN | apply Kd.S_drew)); exact (ZJ (Kd.S_far (p := ⟨gb430, 1, none⟩) (Kd.S_far (p := ⟨gb430, 0, none⟩) (Kd.S_types HO429.out BK430.out (by first | decide | exact spE_ (by decide))) (fun _ hk => hk.2) (.int .i64 t426)) (fun _ hk => hk.2) (.slice Ao96 t427.length co96)) (fun _ h_ => h_.1))) hnsp_HO433)) (ZG ho0) hb); have n3_ := Aside0.mk (Kd.S_lower (ZF (ZF (ZF ho0 (Kd.S_lt (by (with_reducible repeat (first | apply Kd.S_alloc | apply Kd.S_drewN | apply Kd.S_drew)); exact (ZJ (Kd.S_far (p := ⟨gb430, 1, none⟩) (Kd.S_far (p := ⟨gb430, 0, none⟩) (Kd.S_types HO422.out BK430.out (by first | decide | exact spE_ (by decide))) (fun _ hk => hk.2) (.int .i64 t426)) (fun _ hk => hk.2) (.slice Ao96 t427.length co96)) (fun _ h_ => h_.1))))) (Kd.N_lt (by (with_reducible repeat (first | apply ZB | apply ZA | apply ZC)); exact (Zx (Kd.N_far (p := ⟨gb430, 1, none⟩) (Kd.N_far (p := ⟨gb430, 0, none⟩) (Zx HO425.out (fun k_ hk => (⟨hk, hk.2⟩ : _ ∧ k_ ≠ gb430))) (fun _ hk => hk.2) (.int .i64 t426)) (fun _ hk => hk.2) (.slice Ao96 t427.length co96)) (fun _ h_ => h_.1))))) (Kd.S_lt (by (with_reducible repeat (first | apply Kd.S_alloc | apply Kd.S_drewN | apply Kd.S_drew)); exact (ZJ (Kd.S_far (p := ⟨gb430, 1, none⟩) (Kd.S_far (p := ⟨gb430, 0, none⟩) (Kd.S_types HO429.out BK430.out (by first | decide | exact spE_ (by decide))) (fun _ hk => hk.2) (.int .i64 t426)) (fun _ hk => hk.2) (.slice Ao96 t427.length co96)) (fun _ h_ => h_.1))))) (Zk hb_)); have n4_ := Aside0.mk (Zj (g := gb417) (o := .cells #[.int .i64 a0_0, .slice A0_1 l0_1.length c0_1] 24 (0, 0)) (by (with_reducible repeat (first | refine blk_drewN ?_ _ | refine blk_drew ?_ | refine blk_alloc ?_ _)); refine blk_far ?_ NB417_430.out _; (with_reducible repeat (first | refine blk_drewN ?_ _ | refine blk_drew ?_ | refine blk_alloc ?_ _)); refine blk_far ?_ NB417_430.out _; (with_reducible repeat (first | refine blk_drewN ?_ _ | refine blk_drew ?_ | refine blk_alloc ?_ _)); exact BK417.out) hb); have n5_ := Aside0.mk (Zj (g := gb430) (o := .cells #[.int .i64 t426, .slice Ao96 t427.length co96] 27 (0, 0)) (by (with_reducible repeat (first | refine blk_drewN ?_ _ | refine blk_drew ?_ | refine blk_alloc ?_ _)); refine blk_put (cs := #[.int .i64 t426, .slice none 0 0]) ?_ 1 _ rfl; (with_reducible repeat (first | refine blk_drewN ?_ _ | refine blk_drew ?_ | refine blk_alloc ?_ _)); refine blk_put (cs := #[.int .i64 0, .slice none 0 0]) ?_ 0 _ rfl; (with_reducible repeat (first | refine blk_drewN ?_ _ | refine blk_drew ?_ | refine blk_alloc ?_ _)); exact BK430.out) hb); have n6_ := Aside0.mk (Zf hb_ hb); clear HO422; clear HO425; clear HO429; clear BK417; clear BK430; clear HB; have HO422 := n0_; have HO425 := n1_; have HO429 := n2_; have HO433 := n3_; have BK417 := n4_; have BK430 := n5_; have HB := n6_; clear n0_ n1_ n2_ n3_ n4_ n5_ n6_; (try clear hb); (try clear hb2); (try clear hk); (try clear hi); (try clear ho0); obtain ⟨Ao98, co98, eo98⟩ := Kd.S_slice HO433.out; subst eo98; obtain ⟨Ao99, co99, eo99⟩ := Kd.N_slice HO425.out; subst eo99) | ((with_reducible refine Zg (f := 20) rfl ?_); refine Zw (some 25) rfl rfl Try.func20 (by kernel_rfl) rfl #[.slice Ao98 t431.length co98, .slice Ao99 t423.length co99] rfl ar_ ?_; (with_reducible refine (laws_eqIntSS.calls k _ _ t431 _ _ t423 true _ ?side1 ?side2 ?side3 ?side4 A11.out).mono ?_); (case side1 => repeat (first | exact (Zq HO433.out).2.2 | (with_reducible refine Zs ?_ _) | (with_reducible refine Zr ?_ _) | (with_reducible refine Zt ?_))); (case side2 => exact (Zq HO433.out).2.1); (case side3 => repeat (first | exact (Kd.N_reads' HO425.out).2.2 | (with_reducible refine Zs ?_ _) | (with_reducible refine Zr ?_ _) | (with_reducible refine Zt ?_))); (case side4 => exact (Kd.N_reads' HO425.out).2.1); rintro e w' ⟨rfl, ⟨nd, rfl⟩⟩; refine ⟨_, rfl, ?_⟩))
    (try (rw [drewN_self w97]; generalize hq_ : World.drewN w97 _ = w97; have n0_ : Aside0 (Kd.S (KSp (fun k_ => ((nsp_HO422 ≤ k_) ∧ k_ < nsp_HO429) ∧ k_ < nsp_HO433) (Kd.slice 3 (Kd.int .i64))) 38 w97 w.heap.size (fun k_ => some k_ ≠ (.slice Ao99 t423.length co99 : Value).ownBlock ∧ some k_ ≠ (.slice Ao96 t427.length co96 : Value).ownBlock ∧ some k_ ≠ (.slice Ao98 t431.length co98 : Value).ownBlock) (.slice Ao89 t420.length co89) t420) := ⟨by rw [← hq_]; exact (by (with_reducible repeat (first | apply Kd.S_alloc | apply Kd.S_drewN | apply Kd.S_drew)); exact ZJ HO422.out (fun _ hk => ⟨hk.1.1.2, ⟨hk.1.2, hk.2⟩⟩))⟩; have n1_ : Aside0 (Kd.N (Kd.slice 3 (Kd.int .i64)) 38 w97 w.heap.size (fun k_ => some k_ ≠ (.slice Ao89 t420.length co89 : Value).ownBlock ∧ some k_ ≠ (.slice Ao96 t427.length co96 : Value).ownBlock ∧ some k_ ≠ (.slice Ao98 t431.length co98 : Value).ownBlock ∧ k_ ≠ gb417 ∧ k_ ≠ gb430 ∧ k_ < nsp_HO429 ∧ k_ < nsp_HO433) (.slice Ao99 t423.length co99) t423) := ⟨by rw [← hq_]; exact (by (with_reducible repeat (first | apply ZB | apply ZA | apply ZC)); exact Zx HO425.out (fun _ hk => ⟨hk.1.1.1.1.1.1, ⟨hk.1.1.1.2, ⟨hk.2, ⟨hk.1.1.1.1.1.2, ⟨hk.1.1.2, ⟨hk.1.1.1.1.2, hk.1.2⟩⟩⟩⟩⟩⟩))⟩; have n2_ : Aside0 (Kd.S (KSp (fun k_ => (nsp_HO429 ≤ k_) ∧ k_ < nsp_HO433) (Kd.slice 3 (Kd.int .i64))) 38 w97 w.heap.size (fun k_ => some k_ ≠ (.slice Ao89 t420.length co89 : Value).ownBlock ∧ some k_ ≠ (.slice Ao99 t423.length co99 : Value).ownBlock ∧ some k_ ≠ (.slice Ao98 t431.length co98 : Value).ownBlock) (.slice Ao96 t427.length co96) t427) := ⟨by rw [← hq_]; exact (by (with_reducible repeat (first | apply Kd.S_alloc | apply Kd.S_drewN | apply Kd.S_drew)); exact ZJ HO429.out (fun _ hk => ⟨hk.1.1.2, ⟨hk.1.2, hk.2⟩⟩))⟩; have n3_ : Aside0 (Kd.S (KSp (fun k_ => nsp_HO433 ≤ k_) (Kd.slice 3 (Kd.int .i64))) 38 w97 w.heap.size (fun k_ => some k_ ≠ (.slice Ao89 t420.length co89 : Value).ownBlock ∧ some k_ ≠ (.slice Ao99 t423.length co99 : Value).ownBlock ∧ some k_ ≠ (.slice Ao96 t427.length co96 : Value).ownBlock) (.slice Ao98 t431.length co98) t431) := ⟨by rw [← hq_]; exact (by (with_reducible repeat (first | apply Kd.S_alloc | apply Kd.S_drewN | apply Kd.S_drew)); exact ZJ HO433.out (fun _ hk => ⟨hk.1.1.2, ⟨hk.1.2, hk.2⟩⟩))⟩; have n4_ : Aside0 (w97.heap[gb417]? = some (.cells #[.int .i64 a0_0, .slice A0_1 l0_1.length c0_1] 24 (0, 0))) := ⟨by rw [← hq_]; exact (bk_ BK417.out)⟩; have n5_ : Aside0 (w97.heap[gb430]? = some (.cells #[.int .i64 t426, .slice Ao96 t427.length co96] 27 (0, 0))) := ⟨by rw [← hq_]; exact (bk_ BK430.out)⟩; have n6_ : Aside0 (Below w.heap.size w w97) := ⟨by rw [← hq_]; exact hb_⟩; clear HO422 HO425 HO429 HO433 BK417 BK430 HB hq_; have HO422 := n0_; have HO425 := n1_; have HO429 := n2_; have HO433 := n3_; have BK417 := n4_; have BK430 := n5_; have HB := n6_; clear n0_ n1_ n2_ n3_ n4_ n5_ n6_))
    (try (have hcugb417_0 : w97.cell? ⟨gb417, 0, none⟩ = some (.int .i64 a0_0) := (Ze BK417.out 0).trans rfl))
    (try (have hfugb417_0 := Zd BK417.out 0))
    (try (have hcugb417_1 : w97.cell? ⟨gb417, 1, none⟩ = some (.slice A0_1 l0_1.length c0_1) := (Ze BK417.out 1).trans rfl))
    (try (have hfugb417_1 := Zd BK417.out 1))
    (try (have hcugb430_0 : w97.cell? ⟨gb430, 0, none⟩ = some (.int .i64 t426) := (Ze BK430.out 0).trans rfl))
    (try (have hfugb430_0 := Zd BK430.out 0))
    (try (have hcugb430_1 : w97.cell? ⟨gb430, 1, none⟩ = some (.slice Ao96 t427.length co96) := (Ze BK430.out 1).trans rfl))
    (try (have hfugb430_1 := Zd BK430.out 1))
    have n0_ := Aside0.mk (Kd.S_drew HO422.out)
    have n1_ := Aside0.mk (ZC HO425.out)
    have n2_ := Aside0.mk (Kd.S_drew HO429.out)
    have n3_ := Aside0.mk (Kd.S_drew HO433.out)
    have n4_ := Aside0.mk (blk_drew BK417.out)
    have n5_ := Aside0.mk (blk_drew BK430.out)
    have n6_ := Aside0.mk (below_drew1 HB.out)
    clear HO422
    clear HO425
    clear HO429
    clear HO433
    clear BK417
    clear BK430
    clear HB
    have HO422 := n0_
    have HO425 := n1_
    have HO429 := n2_
    have HO433 := n3_
    have BK417 := n4_
    have BK430 := n5_
    have HB := n6_
    clear n0_ n1_ n2_ n3_ n4_ n5_ n6_
    refine start_ (n := 5) (S := fun w' => w'.cell? ⟨gb430, 0, none⟩ = some (.int .i64 t426) ∧ w'.cell? ⟨gb430, 1, none⟩ = some (.slice Ao96 t427.length co96) ∧ w'.cell? ⟨gb417, 0, none⟩ = some (.int .i64 a0_0) ∧ w'.cell? ⟨gb417, 1, none⟩ = some (.slice A0_1 l0_1.length c0_1)) (ds := []) #[O,O,O,O,O] (by kernel_rfl) rfl rfl ⟨(Ze BK430.out 0).trans rfl, (Ze BK430.out 1).trans rfl, (Ze BK417.out 0).trans rfl, (Ze BK417.out 1).trans rfl⟩ (fun hHeld => ?_)
    generalize w97.drew = w100 at HO422 HO425 HO429 HO433 BK417 BK430 HB hHeld ⊢
    refine take_ (i := 0) (N := some 27) (v := ?_) (a' := ?_) #[Y,O,O,O,O] rfl rfl (by kernel_rfl) (fun _ _ _ h => h) (Or.inl ⟨by rfl, ?_⟩) hHeld ?_ ?_
    rotate_left
    ·rintro w' ⟨s0, s1, s2, s3⟩
     go_simp
     with_reducible rfl
    rotate_left
    ·simp only [Act.put, Za, Zb, Zc, Zl, Zm]
     rfl
    refine take_ (i := 1) (N := some 28) (v := ?_) (a' := ?_) #[Y,Y,O,O,O] rfl rfl (by kernel_rfl) (fun _ _ _ h => h) (Or.inl ⟨by rfl, ?_⟩) hHeld ?_ ?_
    rotate_left
    ·rintro w' ⟨s0, s1, s2, s3⟩
     go_simp
     with_reducible rfl
    rotate_left
    ·simp only [Act.put, Za, Zb, Zc, Zl, Zm]
     rfl
    refine one_ (i := 2) (N := some 29) #[Y,Y,Y,O,O] rfl rfl (by kernel_rfl) (by first | decide | exact spE_ (by decide)) (fun K hK => ?_)
    refine goes_ Try.func15 (by kernel_rfl) rfl #[.agg #[.int .i64 a0_0, .slice A0_1 l0_1.length c0_1]] (by rfl) rfl rfl ar_ ?_
    with_reducible refine (laws_toGraph.calls k a0_0 _ _ l0_1 t435 t436 _ ?side1 ?side2 A13.out).mono ?_
    (case side1 => exact cb_ HR0_1.out)
    (case side2 => exact HC0_1.out)
    rintro e w101 ⟨v437, rfl, ho0, hb⟩
    refine ⟨_, rfl, ?_⟩
    obtain ⟨nsp_HO438, hnsp_HO438, ho0⟩ := S_newSp ho0
    have n0_ := Aside0.mk (ZH ((S_oldSp (rS_ HO422.out) hnsp_HO438)) (ZG ho0) hb)
    have n1_ := Aside0.mk (Kd.N_elder' ((N_oldSp (rN_ HO425.out) hnsp_HO438)) (ZG ho0) hb)
    have n2_ := Aside0.mk (ZH ((S_oldSp (rS_ HO429.out) hnsp_HO438)) (ZG ho0) hb)
    have n3_ := Aside0.mk (ZH ((S_oldSp (rS_ HO433.out) hnsp_HO438)) (ZG ho0) hb)
    have n4_ := Aside0.mk (Kd.S_lower (ZF (ZF (ZF (ZF ho0 (Kd.S_lt (rS_ HO422.out))) (Kd.N_lt (rN_ HO425.out))) (Kd.S_lt (rS_ HO429.out))) (Kd.S_lt (rS_ HO433.out))) (Zk hb_))
    have n5_ := Aside0.mk (Zj (g := gb417) (o := .cells #[.int .i64 a0_0, .slice A0_1 l0_1.length c0_1] 24 (0, 0)) (bk_ BK417.out) hb)
    have n6_ := Aside0.mk (Zj (g := gb430) (o := .cells #[.int .i64 t426, .slice Ao96 t427.length co96] 27 (0, 0)) (bk_ BK430.out) hb)
    have n7_ := Aside0.mk (Zf hb_ hb)
    clear HO422
    clear HO425
    clear HO429
    clear HO433
    clear BK417
    clear BK430
    clear HB
    have HO422 := n0_
    have HO425 := n1_
    have HO429 := n2_
    have HO433 := n3_
    have HO438 := n4_
    have BK417 := n5_
    have BK430 := n6_
    have HB := n7_
    clear n0_ n1_ n2_ n3_ n4_ n5_ n6_ n7_
    (try clear hb)
    (try clear hb2)
    (try clear hk)
    (try clear hi)
    (try clear ho0)
    obtain ⟨Ao102, co102, eo102⟩ := Kd.S_slice HO438.out
    (first | subst eo102 | (injection eo102 with f1_ f2_ f3_; have f4_ := f1_.symm; have f5_ := f3_.symm; clear f1_ f2_ f3_; subst f4_; subst f5_))
    refine hK.out _ _ ⟨(Ze BK430.out 0).trans rfl, (Ze BK430.out 1).trans rfl, (Ze BK417.out 0).trans rfl, (Ze BK417.out 1).trans rfl⟩ (fun hHeld => ?_)
    clear hK K
    refine norm_ (a' := ?_) ?_ ?_
    rotate_left
    ·show Act.put _ (some 29) _ = _
     simp only [Act.put, Za, Zb, Zc, Zl, Zm]
     rfl
    refine one_ (i := 3) (N := some 30) #[Y,Y,Y,Y,O] rfl rfl (by kernel_rfl) (by first | decide | exact spE_ (by decide)) (fun K hK => ?_)
    refine goes_ Try.func17 (by kernel_rfl) rfl #[.agg #[.int .i64 t426, .slice Ao96 t427.length co96], .agg #[.int .i64 t435, .slice Ao102 t436.length co102]] (by rfl) rfl rfl ar_ ?_
    with_reducible refine (laws_eqGraph.calls k t426 _ _ t427 t435 _ _ t436 false _ ?side1 ?side2 ?side3 ?side4 A14.out).mono ?_
    (case side1 => repeat (first | exact (Zq HO429.out).2.2 | (with_reducible refine Zs ?_ _) | (with_reducible refine Zr ?_ _) | (with_reducible refine Zt ?_)))
    (case side2 => exact (Zq HO429.out).2.1)
    (case side3 => repeat (first | exact (Zq HO438.out).2.2 | (with_reducible refine Zs ?_ _) | (with_reducible refine Zr ?_ _) | (with_reducible refine Zt ?_)))
    (case side4 => exact (Zq HO438.out).2.1)
    rintro e w103 ⟨rfl, hb⟩
    refine ⟨_, rfl, ?_⟩
    have n0_ := Aside0.mk (Kd.S_below (rS_ HO422.out) hb)
    have n1_ := Aside0.mk (Kd.N_below (rN_ HO425.out) hb)
    have n2_ := Aside0.mk (Kd.S_below (rS_ HO429.out) hb)
    have n3_ := Aside0.mk (Kd.S_below (rS_ HO433.out) hb)
    have n4_ := Aside0.mk (Kd.S_below (rS_ HO438.out) hb)
    have n5_ := Aside0.mk (Zj (g := gb417) (o := .cells #[.int .i64 a0_0, .slice A0_1 l0_1.length c0_1] 24 (0, 0)) (bk_ BK417.out) hb)
    have n6_ := Aside0.mk (Zj (g := gb430) (o := .cells #[.int .i64 t426, .slice Ao96 t427.length co96] 27 (0, 0)) (bk_ BK430.out) hb)
    have n7_ := Aside0.mk (Zf hb_ hb)
    clear HO422
    clear HO425
    clear HO429
    clear HO433
    clear HO438
    clear BK417
    clear BK430
    clear HB
    have HO422 := n0_
    have HO425 := n1_
    have HO429 := n2_
    have HO433 := n3_
    have HO438 := n4_
    have BK417 := n5_
    have BK430 := n6_
    have HB := n7_
    clear n0_ n1_ n2_ n3_ n4_ n5_ n6_ n7_
    (try clear hb)
    (try clear hb2)
    (try clear hk)
    (try clear hi)
    refine hK.out _ _ ⟨(Ze BK430.out 0).trans rfl, (Ze BK430.out 1).trans rfl, (Ze BK417.out 0).trans rfl, (Ze BK417.out 1).trans rfl⟩ (fun hHeld => ?_)
    clear hK K
    refine norm_ (a' := ?_) ?_ ?_
    rotate_left
    ·show Act.put _ (some 30) _ = _
     simp only [Act.put, Za, Zb, Zc, Zl, Zm]
     rfl
    refine Zu (i := 4) (N := some 31) (v := ?_) (a' := ?_) #[Y,Y,Y,Y,Y] rfl rfl (by kernel_rfl) (fun _ _ _ h => h) (Or.inl ⟨by rfl, ?_⟩) ?_ ?_
    rotate_left
    ·intro w'
     go_simp
     with_reducible rfl
    rotate_left
    ·simp only [Act.put, Za, Zb, Zc, Zl, Zm]
     rfl
    refine done_ (by kernel_rfl) ?_
    try go_wp2
    all_goals go_ret
    all_goals exact ⟨er_, hb_⟩
  ·replace c12 := Bool.eq_false_iff.mpr c12
   subst c12
   have H1 : (some false) = some r := by rw [if_neg (show ¬ (false = true) by decide)] at H; exact H
   clear H
   have H := H1
   clear H1
   obtain rfl := Option.some.inj H
   go_enter Try.func4, Try.ntmps4
   go_wp2_with (first | ((with_reducible refine Zy (N := 1) rfl ?_); refine Zz ?hg (N := 1) ?hd (cs := #[.int .i64 a0_0, .slice A0_1 l0_1.length c0_1]) (t := 24) ?hr ?_; (case hd => rfl); (case hg => rfl); (case hr => first | (go_simp; done) | (go_simp; rfl)); intro gb417 hg w104 hbox hb; have n0_ := Aside0.mk (Zf hb_ hb); have n1_ := Aside0.mk (hbox); have n2_ := Aside0.mk ((hz_ hg : w.heap.size ≤ gb417)); have n3_ := Aside0.mk ((hz_ hg : w.heap.size ≤ gb417)); clear HB; have HB := n0_; have BK417 := n1_; have GW417 := n2_; have GE417 := n3_; clear n0_ n1_ n2_ n3_; clear hb hbox hg; have hcz105_0 : w104.cell? ⟨gb417, 0, none⟩ = some (.int .i64 a0_0) := (Ze BK417.out 0).trans rfl; have hcz105_1 : w104.cell? ⟨gb417, 1, none⟩ = some (.slice A0_1 l0_1.length c0_1) := (Ze BK417.out 1).trans rfl; have hfz105_0 := Zd BK417.out 0; have hfz105_1 := Zd BK417.out 1) | ((with_reducible refine Zg (f := 13) rfl ?_); refine Zw (some 13) rfl rfl Try.func13 (by kernel_rfl) rfl #[.agg #[.int .i64 a0_0, .slice A0_1 l0_1.length c0_1], .int .i64 1048576] rfl ar_ ?_; (with_reducible refine (laws_szGraph.calls k a0_0 _ _ l0_1 1048576 t418 _ ?side1 ?side2 A2.out).mono ?_); (case side1 => exact cb_ HR0_1.out); (case side2 => exact HC0_1.out); rintro e w106 ⟨rfl, hb⟩; refine ⟨_, rfl, ?_⟩; have n0_ := Aside0.mk (Zj (g := gb417) (o := .cells #[.int .i64 a0_0, .slice A0_1 l0_1.length c0_1] 24 (0, 0)) (bk_ BK417.out) hb); have n1_ := Aside0.mk (Zf hb_ hb); clear BK417; clear HB; have BK417 := n0_; have HB := n1_; clear n0_ n1_; (try clear hb); (try clear hb2); (try clear hk); (try clear hi); have hcz107_0 : w106.cell? ⟨gb417, 0, none⟩ = some (.int .i64 a0_0) := (Ze BK417.out 0).trans rfl; have hcz107_1 : w106.cell? ⟨gb417, 1, none⟩ = some (.slice A0_1 l0_1.length c0_1) := (Ze BK417.out 1).trans rfl; have hfz107_0 := Zd BK417.out 0; have hfz107_1 := Zd BK417.out 1) | ((with_reducible refine Zg (f := 15) rfl ?_); refine Zw (some 17) rfl rfl Try.func15 (by kernel_rfl) rfl #[.agg #[.int .i64 a0_0, .slice A0_1 l0_1.length c0_1]] rfl ar_ ?_; (with_reducible refine (laws_toGraph.calls k a0_0 _ _ l0_1 t419 t420 _ ?side1 ?side2 A7.out).mono ?_); (case side1 => exact cb_ HR0_1.out); (case side2 => exact HC0_1.out); rintro e w108 ⟨v421, rfl, ho0, hb⟩; refine ⟨_, rfl, ?_⟩; obtain ⟨nsp_HO422, hnsp_HO422, ho0⟩ := S_newSp ho0; have n0_ := Aside0.mk (Kd.S_lower ho0 (Zk hb_)); have n1_ := Aside0.mk (Zj (g := gb417) (o := .cells #[.int .i64 a0_0, .slice A0_1 l0_1.length c0_1] 24 (0, 0)) (bk_ BK417.out) hb); have n2_ := Aside0.mk (Zf hb_ hb); clear BK417; clear HB; have HO422 := n0_; have BK417 := n1_; have HB := n2_; clear n0_ n1_ n2_; (try clear hb); (try clear hb2); (try clear hk); (try clear hi); (try clear ho0); obtain ⟨Ao109, co109, eo109⟩ := Kd.S_slice HO422.out; subst eo109) | ((with_reducible refine Zg (f := 18) rfl ?_); refine Zw (some 18) rfl rfl Try.func18 (by kernel_rfl) rfl #[.agg #[.int .i64 t419, .slice Ao109 t420.length co109]] rfl ar_ ?_; (with_reducible refine (spec_Preferred.calls k t419 _ _ t420 t423 _ ?side1 ?side2 A8.out).mono ?_); (case side1 => repeat (first | exact (Zq HO422.out).2.2 | (with_reducible refine Zs ?_ _) | (with_reducible refine Zr ?_ _) | (with_reducible refine Zt ?_))); (case side2 => exact (Zq HO422.out).2.1); rintro e w110 ⟨v424, rfl, ho0, hb⟩; refine ⟨_, rfl, ?_⟩; have n0_ := Aside0.mk (ZH (rS_ HO422.out) (Kd.N_base ho0) hb); have n1_ := Aside0.mk (Kd.N_lower (Zx (ok' := fun k_ => some k_ ≠ (.slice Ao109 t420.length co109 : Value).ownBlock ∧ k_ ≠ gb417) ho0 (fun k_ hk_ => ⟨(Kd.fresh' (Kd.S_lt (rS_ HO422.out)) k_ hk_), (Kd.freshB (g := gb417) (o := .cells #[.int .i64 a0_0, .slice A0_1 l0_1.length c0_1] 24 (0, 0)) (bk_ BK417.out) k_ hk_)⟩)) (Zk hb_)); have n2_ := Aside0.mk (Zj (g := gb417) (o := .cells #[.int .i64 a0_0, .slice A0_1 l0_1.length c0_1] 24 (0, 0)) (bk_ BK417.out) hb); have n3_ := Aside0.mk (Zf hb_ hb); clear HO422; clear BK417; clear HB; have HO422 := n0_; have HO425 := n1_; have BK417 := n2_; have HB := n3_; clear n0_ n1_ n2_ n3_; (try clear hb); (try clear hb2); (try clear hk); (try clear hi); (try clear ho0); have hcz111_0 : w110.cell? ⟨gb417, 0, none⟩ = some (.int .i64 a0_0) := (Ze BK417.out 0).trans rfl; have hcz111_1 : w110.cell? ⟨gb417, 1, none⟩ = some (.slice A0_1 l0_1.length c0_1) := (Ze BK417.out 1).trans rfl; have hfz111_0 := Zd BK417.out 0; have hfz111_1 := Zd BK417.out 1) | ((with_reducible refine Zg (f := 15) rfl ?_); refine Zw (some 20) rfl rfl Try.func15 (by kernel_rfl) rfl #[.agg #[.int .i64 a0_0, .slice A0_1 l0_1.length c0_1]] rfl ar_ ?_; (with_reducible refine (laws_toGraph.calls k a0_0 _ _ l0_1 t426 t427 _ ?side1 ?side2 A9.out).mono ?_); (case side1 => exact cb_ HR0_1.out); (case side2 => exact HC0_1.out); rintro e w112 ⟨v428, rfl, ho0, hb⟩; refine ⟨_, rfl, ?_⟩; obtain ⟨nsp_HO429, hnsp_HO429, ho0⟩ := S_newSp ho0; have n0_ := Aside0.mk (ZH ((S_oldSp (rS_ HO422.out) hnsp_HO429)) (ZG ho0) hb); have n1_ := Aside0.mk (Kd.N_elder' ((N_oldSp (rN_ HO425.out) hnsp_HO429)) (ZG ho0) hb); have n2_ := Aside0.mk (Kd.S_lower (ZF (ZF ho0 (Kd.S_lt (rS_ HO422.out))) (Kd.N_lt (rN_ HO425.out))) (Zk hb_)); have n3_ := Aside0.mk (Zj (g := gb417) (o := .cells #[.int .i64 a0_0, .slice A0_1 l0_1.length c0_1] 24 (0, 0)) (bk_ BK417.out) hb); have n4_ := Aside0.mk (Zf hb_ hb); clear HO422; clear HO425; clear BK417; clear HB; have HO422 := n0_; have HO425 := n1_; have HO429 := n2_; have BK417 := n3_; have HB := n4_; clear n0_ n1_ n2_ n3_ n4_; (try clear hb); (try clear hb2); (try clear hk); (try clear hi); (try clear ho0)) | ((with_reducible refine Zy (N := 5) rfl ?_); refine Zz ?hg (N := 5) ?hd (cs := #[.int .i64 0, .slice none 0 0]) (t := 27) ?hr ?_; (case hd => rfl); (case hg => rfl); (case hr => first | (go_simp; done) | (go_simp; rfl)); intro gb430 hg w113 hbox hb; have n0_ := Aside0.mk (Kd.S_below (rS_ HO422.out) hb); have n1_ := Aside0.mk (Kd.N_below (Kd.N_elderB (rN_ HO425.out) gb430 (Nat.le_of_eq hg.symm)) hb); have n2_ := Aside0.mk (Kd.S_below (rS_ HO429.out) hb); have n3_ := Aside0.mk (Zj (g := gb417) (o := .cells #[.int .i64 a0_0, .slice A0_1 l0_1.length c0_1] 24 (0, 0)) (bk_ BK417.out) hb); have n4_ := Aside0.mk (Zf hb_ hb); have n5_ := Aside0.mk (hbox); have n6_ := Aside0.mk ((hz_ hg : w.heap.size ≤ gb430)); have n7_ := Aside0.mk ((hz_ hg : w.heap.size ≤ gb430)); have n8_ := Aside0.mk ((by rw [hg]; exact Nat.ne_of_lt (blk_lt (g := gb417) (o := .cells #[.int .i64 a0_0, .slice A0_1 l0_1.length c0_1] 24 (0, 0)) (bk_ BK417.out)) : gb417 ≠ gb430)); have n9_ := Aside0.mk ((by rw [hg]; exact Nat.ne_of_gt (blk_lt (g := gb417) (o := .cells #[.int .i64 a0_0, .slice A0_1 l0_1.length c0_1] 24 (0, 0)) (bk_ BK417.out)) : gb430 ≠ gb417)); clear HO422; clear HO425; clear HO429; clear BK417; clear HB; have HO422 := n0_; have HO425 := n1_; have HO429 := n2_; have BK417 := n3_; have HB := n4_; have BK430 := n5_; have GW430 := n6_; have GE430 := n7_; have NB417_430 := n8_; have NB430_417 := n9_; clear n0_ n1_ n2_ n3_ n4_ n5_ n6_ n7_ n8_ n9_; clear hb hbox hg; have hnb114 := NB430_417.out; have hnc114 := NB417_430.out; have hcz115_0 : w113.cell? ⟨gb430, 0, none⟩ = some (.int .i64 0) := (Ze BK430.out 0).trans rfl; have hcz115_1 : w113.cell? ⟨gb430, 1, none⟩ = some (.slice none 0 0) := (Ze BK430.out 1).trans rfl; have hfz115_0 := Zd BK430.out 0; have hfz115_1 := Zd BK430.out 1; obtain ⟨Ao116, co116, eo116⟩ := Kd.S_slice HO429.out; subst eo116) | ((with_reducible refine Zg (f := 19) rfl ?_); refine Zw (some 22) rfl rfl Try.func19 (by kernel_rfl) rfl #[.agg #[.int .i64 t426, .slice Ao116 t427.length co116]] rfl ar_ ?_; (with_reducible refine (impl_Preferred.calls k t426 _ _ t427 t431 _ ?side1 ?side2 A10.out).mono ?_); (case side1 => exact (S_readsSp (e := 38) (base := w.heap.size) (ok := fun k_ => ((True ∧ some k_ ≠ (.slice Ao109 t420.length co109 : Value).ownBlock) ∧ some k_ ≠ (v424 : Value).ownBlock)) (n := t427.length) (c := co116) (by (with_reducible repeat (first | apply Kd.S_alloc | apply Kd.S_drewN | apply Kd.S_drew)); exact (ZJ (Kd.S_far (p := ⟨gb430, 1, none⟩) (Kd.S_far (p := ⟨gb430, 0, none⟩) (Kd.S_types HO429.out BK430.out (by first | decide | exact spE_ (by decide))) (fun _ hk => hk.2) (.int .i64 t426)) (fun _ hk => hk.2) (.slice Ao116 t427.length co116)) (fun _ h_ => h_.1)))).2.2); (case side2 => exact (Zq HO429.out).2.1); rintro e w117 ⟨v432, rfl, ho0, hb⟩; refine ⟨_, rfl, ?_⟩; obtain ⟨nsp_HO433, hnsp_HO433, ho0⟩ := S_newSp ho0; have n0_ := Aside0.mk (ZH ((S_oldSp (by (with_reducible repeat (first | apply Kd.S_alloc | apply Kd.S_drewN | apply Kd.S_drew)); exact (ZJ (Kd.S_far (p := ⟨gb430, 1, none⟩) (Kd.S_far (p := ⟨gb430, 0, none⟩) (Kd.S_types HO422.out BK430.out (by first | decide | exact spE_ (by decide))) (fun _ hk => hk.2) (.int .i64 t426)) (fun _ hk => hk.2) (.slice Ao116 t427.length co116)) (fun _ h_ => h_.1))) hnsp_HO433)) (ZG ho0) hb); have n1_ := Aside0.mk (Kd.N_elder' ((N_oldSp (by (with_reducible repeat (first | apply ZB | apply ZA | apply ZC)); exact (Zx (Kd.N_far (p := ⟨gb430, 1, none⟩) (Kd.N_far (p := ⟨gb430, 0, none⟩) (Zx HO425.out (fun k_ hk => (⟨hk, hk.2⟩ : _ ∧ k_ ≠ gb430))) (fun _ hk => hk.2) (.int .i64 t426)) (fun _ hk => hk.2) (.slice Ao116 t427.length co116)) (fun _ h_ => h_.1))) hnsp_HO433)) (ZG ho0) hb); have n2_ := Aside0.mk (ZH ((S_oldSp (by (with_reducible repeat (first | apply Kd.S_alloc | apply Kd.S_drewN | apply Kd.S_drew)); exact (ZJ (Kd.S_far (p := ⟨gb430, 1, none⟩) (Kd.S_far (p := ⟨gb430, 0, none⟩) (Kd.S_types HO429.out BK430.out (by first | decide | exact spE_ (by decide))) (fun _ hk => hk.2) (.int .i64 t426)) (fun _ hk => hk.2) (.slice Ao116 t427.length co116)) (fun _ h_ => h_.1))) hnsp_HO433)) (ZG ho0) hb); have n3_ := Aside0.mk (Kd.S_lower (ZF (ZF (ZF ho0 (Kd.S_lt (by (with_reducible repeat (first | apply Kd.S_alloc | apply Kd.S_drewN | apply Kd.S_drew)); exact (ZJ (Kd.S_far (p := ⟨gb430, 1, none⟩) (Kd.S_far (p := ⟨gb430, 0, none⟩) (Kd.S_types HO422.out BK430.out (by first | decide | exact spE_ (by decide))) (fun _ hk => hk.2) (.int .i64 t426)) (fun _ hk => hk.2) (.slice Ao116 t427.length co116)) (fun _ h_ => h_.1))))) (Kd.N_lt (by (with_reducible repeat (first | apply ZB | apply ZA | apply ZC)); exact (Zx (Kd.N_far (p := ⟨gb430, 1, none⟩) (Kd.N_far (p := ⟨gb430, 0, none⟩) (Zx HO425.out (fun k_ hk => (⟨hk, hk.2⟩ : _ ∧ k_ ≠ gb430))) (fun _ hk => hk.2) (.int .i64 t426)) (fun _ hk => hk.2) (.slice Ao116 t427.length co116)) (fun _ h_ => h_.1))))) (Kd.S_lt (by (with_reducible repeat (first | apply Kd.S_alloc | apply Kd.S_drewN | apply Kd.S_drew)); exact (ZJ (Kd.S_far (p := ⟨gb430, 1, none⟩) (Kd.S_far (p := ⟨gb430, 0, none⟩) (Kd.S_types HO429.out BK430.out (by first | decide | exact spE_ (by decide))) (fun _ hk => hk.2) (.int .i64 t426)) (fun _ hk => hk.2) (.slice Ao116 t427.length co116)) (fun _ h_ => h_.1))))) (Zk hb_)); have n4_ := Aside0.mk (Zj (g := gb417) (o := .cells #[.int .i64 a0_0, .slice A0_1 l0_1.length c0_1] 24 (0, 0)) (by (with_reducible repeat (first | refine blk_drewN ?_ _ | refine blk_drew ?_ | refine blk_alloc ?_ _)); refine blk_far ?_ NB417_430.out _; (with_reducible repeat (first | refine blk_drewN ?_ _ | refine blk_drew ?_ | refine blk_alloc ?_ _)); refine blk_far ?_ NB417_430.out _; (with_reducible repeat (first | refine blk_drewN ?_ _ | refine blk_drew ?_ | refine blk_alloc ?_ _)); exact BK417.out) hb); have n5_ := Aside0.mk (Zj (g := gb430) (o := .cells #[.int .i64 t426, .slice Ao116 t427.length co116] 27 (0, 0)) (by (with_reducible repeat (first | refine blk_drewN ?_ _ | refine blk_drew ?_ | refine blk_alloc ?_ _)); refine blk_put (cs := #[.int .i64 t426, .slice none 0 0]) ?_ 1 _ rfl; (with_reducible repeat (first | refine blk_drewN ?_ _ | refine blk_drew ?_ | refine blk_alloc ?_ _)); refine blk_put (cs := #[.int .i64 0, .slice none 0 0]) ?_ 0 _ rfl; (with_reducible repeat (first | refine blk_drewN ?_ _ | refine blk_drew ?_ | refine blk_alloc ?_ _)); exact BK430.out) hb); have n6_ := Aside0.mk (Zf hb_ hb); clear HO422; clear HO425; clear HO429; clear BK417; clear BK430; clear HB; have HO422 := n0_; have HO425 := n1_; have HO429 := n2_; have HO433 := n3_; have BK417 := n4_; have BK430 := n5_; have HB := n6_; clear n0_ n1_ n2_ n3_ n4_ n5_ n6_; (try clear hb); (try clear hb2); (try clear hk); (try clear hi); (try clear ho0); obtain ⟨Ao118, co118, eo118⟩ := Kd.S_slice HO433.out; subst eo118; obtain ⟨Ao119, co119, eo119⟩ := Kd.N_slice HO425.out; subst eo119) | ((with_reducible refine Zg (f := 20) rfl ?_); refine Zw (some 25) rfl rfl Try.func20 (by kernel_rfl) rfl #[.slice Ao118 t431.length co118, .slice Ao119 t423.length co119] rfl ar_ ?_; (with_reducible refine (laws_eqIntSS.calls k _ _ t431 _ _ t423 false _ ?side1 ?side2 ?side3 ?side4 A11.out).mono ?_); (case side1 => repeat (first | exact (Zq HO433.out).2.2 | (with_reducible refine Zs ?_ _) | (with_reducible refine Zr ?_ _) | (with_reducible refine Zt ?_))); (case side2 => exact (Zq HO433.out).2.1); (case side3 => repeat (first | exact (Kd.N_reads' HO425.out).2.2 | (with_reducible refine Zs ?_ _) | (with_reducible refine Zr ?_ _) | (with_reducible refine Zt ?_))); (case side4 => exact (Kd.N_reads' HO425.out).2.1); rintro e w' ⟨rfl, ⟨nd, rfl⟩⟩; refine ⟨_, rfl, ?_⟩))
   all_goals go_ret
   all_goals exact ⟨er_, hb_⟩

end Go.Proofs.Ytkmhkkhlbnhaaaa.PFnExactPreferred
