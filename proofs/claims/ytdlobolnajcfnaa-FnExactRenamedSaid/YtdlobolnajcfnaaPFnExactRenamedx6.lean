-- Written by a program of this session (hooks of mine on the print): Lean checks it.
import Derived.Test.YtdlobolnajcfnaaPFnExactRenamedx0
namespace Go.Proofs.Ytdlobolnajcfnaa.PFnExactRenamed
open Go.RowKit Go.Proofs.YtdlobolnajcfnaaW.PrintWords Go.Proofs.YtdlobolnajcfnaaW.PrintLast Go.Proofs.YtdlobolnajcfnaaW.PrintMore
attribute [local go_sem] max2_int min2_int max_two min_two max_three min_three max_four min_four   -- for this text's walks alone
set_option linter.unusedVariables false
set_option linter.unusedSimpArgs false

/-! ### spec_l1In: function 58 -/
def spec_l1In.f (a0 : Int) (a1 : Int) (a2 : Int) : Option (Bool) := if a0 ≥ a1 then (some (decide (a0 ≤ a2))) else (some false)
set_option maxHeartbeats 8000000 in
set_option maxRecDepth 100000 in
theorem spec_l1In.calls (a0 : Int) (a1 : Int) (a2 : Int) (r : Bool) (w : World) (h : spec_l1In.f a0 a1 a2 = some r) :
  Calls Try.prog 58 #[.int .i64 a0, .int .i64 a1, .int .i64 a2] w fun e w' => e = .returned (.bool r) ∧ Drawn0 w w' := by
 have H : (if a0 ≥ a1 then (some (decide (a0 ≤ a2))) else (some false)) = some r := h
 clear h
 by_cases c4 : a0 ≥ a1
 ·rw [if_pos c4] at H
  have c4b0 : decide (a1 ≤ a0) = true := decide_eq_true c4
  clear c4
  obtain rfl := Option.some.inj H
  go_enter Try.func58, Try.ntmps58
  go_wp2
  go_ret
  exact ⟨by first | rfl | (simp; done) | (simp [*]; done), by repeat (first | exact ZM _ | apply ZL)⟩
 ·rw [if_neg c4] at H
  have c4b0 : decide (a1 ≤ a0) = false := decide_eq_false c4
  clear c4
  obtain rfl := Option.some.inj H
  go_enter Try.func58, Try.ntmps58
  go_wp2
  go_ret
  exact ⟨by first | rfl | (simp; done) | (simp [*]; done), by repeat (first | exact ZM _ | apply ZL)⟩

/-! ### spec_IsGraph: function 57 -/
mutual
def spec_IsGraph.l0 : Nat → Int → Int → List (List Int) → Option (Bool)
 | 0, _, _, _ => none
 | k + 1, x3, x199000, x199001 => if x3 < (x199001.length : Int) then (if 0 ≤ x3 then (if ((rd_L1 x199001 x3).length : Int) = 2 then (if 0 < ((rd_L1 x199001 x3).length : Int) then ((spec_l1In.f (rd (rd_L1 x199001 x3) 0) 0 (wrap64 (x199000 - 1))).bind fun t202 => (if t202 = true then (if 1 < ((rd_L1 x199001 x3).length : Int) then ((spec_l1In.f (rd (rd_L1 x199001 x3) 1) 0 (wrap64 (x199000 - 1))).bind fun t204 => (spec_IsGraph.j1 k x3 (rd_L1 x199001 x3) (!t204) x199000 x199001)) else (none)) else (spec_IsGraph.j1 k x3 (rd_L1 x199001 x3) true x199000 x199001))) else (none)) else (spec_IsGraph.j1 k x3 (rd_L1 x199001 x3) true x199000 x199001)) else (none)) else ((spec_l1In.f x199000 0 10).bind fun t199 => (some t199))
def spec_IsGraph.j1 : Nat → Int → List Int → Bool → Int → List (List Int) → Option (Bool)
 | 0, _, _, _, _, _ => none
 | k + 1, x3, x4, x40, x199000, x199001 => if x40 = true then (some false) else (if x3 > 0 then (if 0 ≤ (wrap64 (x3 - 1)) then (if (wrap64 (x3 - 1)) < (x199001.length : Int) then (if 0 < ((rd_L1 x199001 (wrap64 (x3 - 1))).length : Int) then (if 0 < (x4.length : Int) then (if (rd (rd_L1 x199001 (wrap64 (x3 - 1))) 0) > (rd x4 0) then (some false) else (if (rd (rd_L1 x199001 (wrap64 (x3 - 1))) 0) = (rd x4 0) then (if 1 < ((rd_L1 x199001 (wrap64 (x3 - 1))).length : Int) then (if 1 < (x4.length : Int) then (if (rd (rd_L1 x199001 (wrap64 (x3 - 1))) 1) ≥ (rd x4 1) then (some false) else (spec_IsGraph.l0 k (wrap64 (x3 + 1)) x199000 x199001)) else (none)) else (none)) else (spec_IsGraph.l0 k (wrap64 (x3 + 1)) x199000 x199001))) else (none)) else (none)) else (none)) else (none)) else (spec_IsGraph.l0 k (wrap64 (x3 + 1)) x199000 x199001))
end
def spec_IsGraph.f (k : Nat) (a0_0 : Int) (l0_1 : List (List Int)) : Option (Bool) := spec_IsGraph.l0 k 0 a0_0 l0_1
theorem spec_IsGraph.mono_l : ∀ k, (∀ y0 y1 y2, LeO (spec_IsGraph.l0 k y0 y1 y2) (spec_IsGraph.l0 (k + 1) y0 y1 y2)) ∧ (∀ y0 y1 y2 y3 y4, LeO (spec_IsGraph.j1 k y0 y1 y2 y3 y4) (spec_IsGraph.j1 (k + 1) y0 y1 y2 y3 y4))
 | 0 => ⟨fun _ _ _ r h => by simp [spec_IsGraph.l0] at h, fun _ _ _ _ _ r h => by simp [spec_IsGraph.j1] at h⟩
 | k + 1 => by
  obtain ⟨ih0, ih1⟩ := spec_IsGraph.mono_l k
  refine ⟨?_, ?_⟩
  ·intro y0 y1 y2
   unfold spec_IsGraph.l0
   repeat' first
   | (with_reducible exact ih0 _ _ _)
   | (with_reducible exact ih1 _ _ _ _ _)
   | (with_reducible exact LeO.refl _)
   | (with_reducible exact ZE _)
   | (with_reducible refine ZH ?_ ?_)
   | (with_reducible refine ZD ?_ (fun _ => ?_))
   | exact ih0 _ _ _
   | exact ih1 _ _ _ _ _
   | exact ZE _
   | refine ZH ?_ ?_
   | refine ZD ?_ (fun _ => ?_)
  ·intro y0 y1 y2 y3 y4
   unfold spec_IsGraph.j1
   repeat' first
   | (with_reducible exact ih0 _ _ _)
   | (with_reducible exact ih1 _ _ _ _ _)
   | (with_reducible exact LeO.refl _)
   | (with_reducible exact ZE _)
   | (with_reducible refine ZH ?_ ?_)
   | (with_reducible refine ZD ?_ (fun _ => ?_))
   | exact ih0 _ _ _
   | exact ih1 _ _ _ _ _
   | exact ZE _
   | refine ZH ?_ ?_
   | refine ZD ?_ (fun _ => ?_)
theorem spec_IsGraph.mono : ∀ a0 a1 k, LeO (spec_IsGraph.f k a0 a1) (spec_IsGraph.f (k + 1) a0 a1) := by
 intro a0 a1 k
 obtain ⟨ih0, ih1⟩ := spec_IsGraph.mono_l k
 unfold spec_IsGraph.f
 repeat' first
   | (with_reducible exact ih0 _ _ _)
   | (with_reducible exact ih1 _ _ _ _ _)
   | (with_reducible exact LeO.refl _)
   | (with_reducible exact ZE _)
   | (with_reducible refine ZH ?_ ?_)
   | (with_reducible refine ZD ?_ (fun _ => ?_))
   | exact ih0 _ _ _
   | exact ih1 _ _ _ _ _
   | exact ZE _
   | refine ZH ?_ ?_
   | refine ZD ?_ (fun _ => ?_)
set_option maxHeartbeats 8000000 in
set_option maxRecDepth 100000 in
theorem spec_IsGraph.calls (k : Nat) (a0_0 : Int) (A0_1 : Option Addr) (c0_1 : Nat) (l0_1 : List (List Int)) (r : Bool) (w : World) (hr0_1 : Kd.C (Kd.slice 3 (Kd.int .i64)) w A0_1 l0_1.length l0_1) (hc0_1 : l0_1.length ≤ c0_1) (h : spec_IsGraph.f k a0_0 l0_1 = some r) :
  Calls Try.prog 57 #[.agg #[.int .i64 a0_0, .slice A0_1 l0_1.length c0_1]] w fun e w' => e = .returned (.bool r) ∧ Below w.heap.size w w' := by
 have hu27 := Try.underlying27
 have HR0_1 := Aside0.mk hr0_1
 have HC0_1 := Aside0.mk hc0_1
 clear hr0_1 hc0_1
 have HB := Aside0.mk (Below.refl w.heap.size w)
 have H : (spec_IsGraph.l0 k 0 a0_0 l0_1) = some r := h
 clear h
 have H' := Aside0.mk H
 clear H
 go_enter Try.func57, Try.ntmps57
 go_wp2_with (first | ((with_reducible refine gate_dst (N := 1) rfl ?_); refine box_event ?hg (N := 1) ?hd (cs := #[.int .i64 a0_0, .slice A0_1 l0_1.length c0_1]) (t := 27) ?hr ?_; (case hd => rfl); (case hg => rfl); (case hr => first | (go_simp; done) | (go_simp; rfl)); intro gb198 hg w2 hbox hb; have n0_ := Aside0.mk (Zu (by repeat (first | (with_reducible first | exact HB.out | apply Zj | apply Ze | apply Zi) | exact HB.out)) hb); have n1_ := Aside0.mk (hbox); have n2_ := Aside0.mk ((by rw [hg]; exact (Zs (by repeat (first | (with_reducible first | exact HB.out | apply Zj | apply Ze | apply Zi) | exact HB.out))) : w.heap.size ≤ gb198)); have n3_ := Aside0.mk ((by rw [hg]; exact (Zs (by repeat (first | (with_reducible first | exact HB.out | apply Zj | apply Ze | apply Zi) | exact HB.out))) : w.heap.size ≤ gb198)); clear HB; have HB := n0_; have BK198 := n1_; have GW198 := n2_; have GE198 := n3_; clear n0_ n1_ n2_ n3_; clear hb hbox hg))
 repeat (go_quiet (first | ((with_reducible refine gate_dst (N := 1) rfl ?_); refine box_event ?hg (N := 1) ?hd (cs := #[.int .i64 a0_0, .slice A0_1 l0_1.length c0_1]) (t := 27) ?hr ?_; (case hd => rfl); (case hg => rfl); (case hr => first | (go_simp; done) | (go_simp; rfl)); intro gb198 hg w2 hbox hb; have n0_ := Aside0.mk (Zu (by repeat (first | (with_reducible first | exact HB.out | apply Zj | apply Ze | apply Zi) | exact HB.out)) hb); have n1_ := Aside0.mk (hbox); have n2_ := Aside0.mk ((by rw [hg]; exact (Zs (by repeat (first | (with_reducible first | exact HB.out | apply Zj | apply Ze | apply Zi) | exact HB.out))) : w.heap.size ≤ gb198)); have n3_ := Aside0.mk ((by rw [hg]; exact (Zs (by repeat (first | (with_reducible first | exact HB.out | apply Zj | apply Ze | apply Zi) | exact HB.out))) : w.heap.size ≤ gb198)); clear HB; have HB := n0_; have BK198 := n1_; have GW198 := n2_; have GE198 := n3_; clear n0_ n1_ n2_ n3_; clear hb hbox hg)); try go_wp2_with (first | ((with_reducible refine gate_dst (N := 1) rfl ?_); refine box_event ?hg (N := 1) ?hd (cs := #[.int .i64 a0_0, .slice A0_1 l0_1.length c0_1]) (t := 27) ?hr ?_; (case hd => rfl); (case hg => rfl); (case hr => first | (go_simp; done) | (go_simp; rfl)); intro gb198 hg w2 hbox hb; have n0_ := Aside0.mk (Zu (by repeat (first | (with_reducible first | exact HB.out | apply Zj | apply Ze | apply Zi) | exact HB.out)) hb); have n1_ := Aside0.mk (hbox); have n2_ := Aside0.mk ((by rw [hg]; exact (Zs (by repeat (first | (with_reducible first | exact HB.out | apply Zj | apply Ze | apply Zi) | exact HB.out))) : w.heap.size ≤ gb198)); have n3_ := Aside0.mk ((by rw [hg]; exact (Zs (by repeat (first | (with_reducible first | exact HB.out | apply Zj | apply Ze | apply Zi) | exact HB.out))) : w.heap.size ≤ gb198)); clear HB; have HB := n0_; have BK198 := n1_; have GW198 := n2_; have GE198 := n3_; clear n0_ n1_ n2_ n3_; clear hb hbox hg)))
 go_loopg [3] k (fun kq v3 w' => ∃ (x3_1 : Int), v3 = .int .i64 x3_1 ∧ Aside0 (spec_IsGraph.l0 kq x3_1 a0_0 l0_1 = some r) ∧ Aside0 (kq ≤ k) ∧ Aside0 (w'.heap[gb198]? = some (.cells #[.int .i64 a0_0, (.slice A0_1 l0_1.length c0_1)] 27 (0, 0))) ∧ Aside0 (Below w.heap.size w w'))
 case atStart => exact ⟨(0), (by first | rfl | (simp; done) | (simp [*]; done)), H', ⟨Nat.le_refl _⟩, ⟨by (with_reducible repeat (first | refine Zg ?_ _ | refine Zh ?_ | refine Zf ?_ _)); exact BK198.out⟩, ⟨by repeat (first | (with_reducible first | exact HB.out | apply Zj | apply Ze | apply Zi | refine Zd ?_ GE198.out) | exact HB.out)⟩⟩
 case round =>
  clear H'
  try clear p2
  obtain ⟨x3_1, rfl, HA, HK1, BK198, HB⟩ := hrel
  cases gk with
  | zero => exact absurd HA.out (by simp [spec_IsGraph.l0])
  | succ k1 =>
   have H := HA.out
   clear HA
   simp only [spec_IsGraph.l0] at H
   by_cases c3 : x3_1 < (l0_1.length : Int)
   ·rw [if_pos c3] at H
    have c3b0 : decide (x3_1 < (l0_1.length : Int)) = true := decide_eq_true c3
    clear c3
    by_cases c4 : 0 ≤ x3_1
    ·rw [if_pos c4] at H
     have c4b0 : decide (0 ≤ x3_1) = true := decide_eq_true c4
     clear c4
     have HC5 := Aside0.mk H
     clear H
     have hcz6_0 : wr.cell? ⟨gb198, 0, none⟩ = some (.int .i64 a0_0) := (Zk BK198.out 0).trans rfl
     have hcz6_1 : wr.cell? ⟨gb198, 1, none⟩ = some (.slice A0_1 l0_1.length c0_1) := (Zk BK198.out 1).trans rfl
     have hfz6_0 := Zl BK198.out 0
     have hfz6_1 := Zl BK198.out 1
     have p200 : 0 ≤ (x3_1 : Int) := of_decide_eq_true (by first | (with_reducible assumption) | assumption)
     have q200 : x3_1 < (l0_1.length : Int) := of_decide_eq_true (by first | (with_reducible assumption) | assumption)
     obtain ⟨ad200, A200_0, c200_0, e200, hx200_0, hl200_0, hi200_0⟩ := at_L1 HR0_1.out x3_1 p200 q200
     cases e200
     replace hx200_0 := (HB.out.cell (World.block_lt_of_cell? w _ hx200_0)).trans hx200_0
     have HR200_0 := Aside0.mk hi200_0
     have HC200_0 := Aside0.mk hl200_0
     clear hi200_0 hl200_0
     replace p200 := eq_true p200
     replace q200 := eq_true q200
     go_upto_region 5 with (fail)
     repeat (go_quiet (fail); go_upto_region 5 with (fail))
     go_cut [40] (fun v40 wc => ∃ (kq : Nat) (x40_4 : Bool), v40 = .bool x40_4 ∧ Aside0 (spec_IsGraph.j1 kq x3_1 (rd_L1 l0_1 x3_1) x40_4 a0_0 l0_1 = some r) ∧ Aside0 (kq ≤ k1) ∧ Aside0 (wc.heap[gb198]? = some (.cells #[.int .i64 a0_0, (.slice (some ad200) l0_1.length c0_1)] 27 (0, 0))) ∧ Aside0 (Below w.heap.size w wc))
     case first =>
      have H := HC5.out
      clear HC5
      by_cases c7 : ((rd_L1 l0_1 x3_1).length : Int) = 2
      ·rw [if_pos c7] at H
       have c7b0 : (((rd_L1 l0_1 x3_1).length : Int) == 2) = true := beq_iff_eq.mpr c7
       have c7b1 : (((rd_L1 l0_1 x3_1).length : Int) != 2) = false := bne_eq_false_iff_eq.mpr c7
       clear c7
       (first | rw [c7b0] | (simp only [Zq, Zr]; rw [c7b0]) | skip)
       by_cases c8 : 0 < ((rd_L1 l0_1 x3_1).length : Int)
       ·rw [if_pos c8] at H
        have c8b0 : decide (0 < ((rd_L1 l0_1 x3_1).length : Int)) = true := decide_eq_true c8
        have c8b1 : decide (0 < (rd_L1 l0_1 x3_1).length) = true := decide_eq_true (by omega)
        clear c8
        replace H := Option.bind_eq_some_iff.mp H
        obtain ⟨t202, A90, H⟩ := H
        replace H : (if t202 = true then (if 1 < ((rd_L1 l0_1 x3_1).length : Int) then ((spec_l1In.f (rd (rd_L1 l0_1 x3_1) 1) 0 (wrap64 (a0_0 - 1))).bind fun t204 => (spec_IsGraph.j1 k1 x3_1 (rd_L1 l0_1 x3_1) (!t204) a0_0 l0_1)) else (none)) else (spec_IsGraph.j1 k1 x3_1 (rd_L1 l0_1 x3_1) true a0_0 l0_1)) = some r := H
        have A9 := Aside0.mk A90
        clear A90
        by_cases c10 : t202 = true
        ·subst c10
         have H1 : (if 1 < ((rd_L1 l0_1 x3_1).length : Int) then ((spec_l1In.f (rd (rd_L1 l0_1 x3_1) 1) 0 (wrap64 (a0_0 - 1))).bind fun t204 => (spec_IsGraph.j1 k1 x3_1 (rd_L1 l0_1 x3_1) (!t204) a0_0 l0_1)) else (none)) = some r := by rw [if_pos rfl] at H; exact H
         clear H
         have H := H1
         clear H1
         by_cases c11 : 1 < ((rd_L1 l0_1 x3_1).length : Int)
         ·rw [if_pos c11] at H
          have c11b0 : decide (1 < ((rd_L1 l0_1 x3_1).length : Int)) = true := decide_eq_true c11
          have c11b1 : decide (1 < (rd_L1 l0_1 x3_1).length) = true := decide_eq_true (by omega)
          clear c11
          replace H := Option.bind_eq_some_iff.mp H
          obtain ⟨t204, A120, H⟩ := H
          replace H : (spec_IsGraph.j1 k1 x3_1 (rd_L1 l0_1 x3_1) (!t204) a0_0 l0_1) = some r := H
          have A12 := Aside0.mk A120
          clear A120
          have H' := Aside0.mk H
          clear H
          have p201 : 0 ≤ (0 : Int) := (by omega)
          have q201 : 0 < ((rd_L1 l0_1 x3_1).length : Int) := of_decide_eq_true (by first | (with_reducible assumption) | assumption)
          obtain ⟨ad201, e201, hx201_0⟩ := ZI HR200_0.out 0 p201 q201
          cases e201
          have qi201 : (0 < (rd_L1 l0_1 x3_1).length) = True := eq_true (by omega)
          (try rw [show ((0 : Int)).toNat = 0 from rfl] at hx201_0)
          (try rw [Addr.add_zero'] at hx201_0)
          replace hx201_0 := (HB.out.cell (World.block_lt_of_cell? w _ hx201_0)).trans hx201_0
          replace p201 := eq_true p201
          replace q201 := eq_true q201
          have hcz13_0 : wr.cell? ⟨gb198, 0, none⟩ = some (.int .i64 a0_0) := (Zk BK198.out 0).trans rfl
          have hcz13_1 : wr.cell? ⟨gb198, 1, none⟩ = some (.slice (some ad200) l0_1.length c0_1) := (Zk BK198.out 1).trans rfl
          have hfz13_0 := Zl BK198.out 0
          have hfz13_1 := Zl BK198.out 1
          go_wp2_with (first | (go_at_call 58; refine calls_of_args (args' := #[.int .i64 (rd (rd_L1 l0_1 x3_1) 0), .int .i64 0, .int .i64 (wrap64 (a0_0 - 1))]) ?harg ?_; (case harg => first | rfl | (simp only [Zq, Zr]; rfl) | (simp only [Zq, Zr]; done)); (with_reducible refine (spec_l1In.calls (rd (rd_L1 l0_1 x3_1) 0) 0 (wrap64 (a0_0 - 1)) true _ A9.out).mono ?_); rintro e w' ⟨rfl, ⟨nd, rfl⟩⟩; (try first | exact ⟨rfl, _, World.drewN_drewN _ _ _⟩ | exact ⟨rfl, _, Eq.trans (World.drewN_drewN _ _ _) (congrArg (World.drewN _) (Nat.add_assoc _ _ _))⟩); have p203 : 0 ≤ (1 : Int) := (by omega); have q203 : 1 < ((rd_L1 l0_1 x3_1).length : Int) := of_decide_eq_true (by first | (with_reducible assumption) | assumption); obtain ⟨ad203, e203, hx203_0⟩ := ZI HR200_0.out 1 p203 q203; obtain rfl : ad201 = ad203 := (by injection e203); (try simp only [show (1 : Int).toNat = 1 from rfl, Nat.reduceMul, Nat.reduceEqDiff, Go.Addr.add, ↓reduceIte] at hx203_0); have qi203 : (1 < (rd_L1 l0_1 x3_1).length) = True := eq_true (by omega); (try rw [show ((1 : Int)).toNat = 1 from rfl] at hx203_0); replace hx203_0 := (HB.out.cell (World.block_lt_of_cell? w _ hx203_0)).trans hx203_0; replace p203 := eq_true p203; replace q203 := eq_true q203) | (go_at_call 58; refine calls_of_args (args' := #[.int .i64 (rd (rd_L1 l0_1 x3_1) 1), .int .i64 0, .int .i64 (wrap64 (a0_0 - 1))]) ?harg ?_; (case harg => first | rfl | (simp only [Zq, Zr]; rfl) | (simp only [Zq, Zr]; done)); (with_reducible refine (spec_l1In.calls (rd (rd_L1 l0_1 x3_1) 1) 0 (wrap64 (a0_0 - 1)) t204 _ A12.out).mono ?_); rintro e w' ⟨rfl, ⟨nd, rfl⟩⟩; (try first | exact ⟨rfl, _, World.drewN_drewN _ _ _⟩ | exact ⟨rfl, _, Eq.trans (World.drewN_drewN _ _ _) (congrArg (World.drewN _) (Nat.add_assoc _ _ _))⟩)))
          repeat (go_quiet (first | (go_at_call 58; refine calls_of_args (args' := #[.int .i64 (rd (rd_L1 l0_1 x3_1) 0), .int .i64 0, .int .i64 (wrap64 (a0_0 - 1))]) ?harg ?_; (case harg => first | rfl | (simp only [Zq, Zr]; rfl) | (simp only [Zq, Zr]; done)); (with_reducible refine (spec_l1In.calls (rd (rd_L1 l0_1 x3_1) 0) 0 (wrap64 (a0_0 - 1)) true _ A9.out).mono ?_); rintro e w' ⟨rfl, ⟨nd, rfl⟩⟩; (try first | exact ⟨rfl, _, World.drewN_drewN _ _ _⟩ | exact ⟨rfl, _, Eq.trans (World.drewN_drewN _ _ _) (congrArg (World.drewN _) (Nat.add_assoc _ _ _))⟩); have p203 : 0 ≤ (1 : Int) := (by omega); have q203 : 1 < ((rd_L1 l0_1 x3_1).length : Int) := of_decide_eq_true (by first | (with_reducible assumption) | assumption); obtain ⟨ad203, e203, hx203_0⟩ := ZI HR200_0.out 1 p203 q203; obtain rfl : ad201 = ad203 := (by injection e203); (try simp only [show (1 : Int).toNat = 1 from rfl, Nat.reduceMul, Nat.reduceEqDiff, Go.Addr.add, ↓reduceIte] at hx203_0); have qi203 : (1 < (rd_L1 l0_1 x3_1).length) = True := eq_true (by omega); (try rw [show ((1 : Int)).toNat = 1 from rfl] at hx203_0); replace hx203_0 := (HB.out.cell (World.block_lt_of_cell? w _ hx203_0)).trans hx203_0; replace p203 := eq_true p203; replace q203 := eq_true q203) | (go_at_call 58; refine calls_of_args (args' := #[.int .i64 (rd (rd_L1 l0_1 x3_1) 1), .int .i64 0, .int .i64 (wrap64 (a0_0 - 1))]) ?harg ?_; (case harg => first | rfl | (simp only [Zq, Zr]; rfl) | (simp only [Zq, Zr]; done)); (with_reducible refine (spec_l1In.calls (rd (rd_L1 l0_1 x3_1) 1) 0 (wrap64 (a0_0 - 1)) t204 _ A12.out).mono ?_); rintro e w' ⟨rfl, ⟨nd, rfl⟩⟩; (try first | exact ⟨rfl, _, World.drewN_drewN _ _ _⟩ | exact ⟨rfl, _, Eq.trans (World.drewN_drewN _ _ _) (congrArg (World.drewN _) (Nat.add_assoc _ _ _))⟩))); try go_wp2_with (first | (go_at_call 58; refine calls_of_args (args' := #[.int .i64 (rd (rd_L1 l0_1 x3_1) 0), .int .i64 0, .int .i64 (wrap64 (a0_0 - 1))]) ?harg ?_; (case harg => first | rfl | (simp only [Zq, Zr]; rfl) | (simp only [Zq, Zr]; done)); (with_reducible refine (spec_l1In.calls (rd (rd_L1 l0_1 x3_1) 0) 0 (wrap64 (a0_0 - 1)) true _ A9.out).mono ?_); rintro e w' ⟨rfl, ⟨nd, rfl⟩⟩; (try first | exact ⟨rfl, _, World.drewN_drewN _ _ _⟩ | exact ⟨rfl, _, Eq.trans (World.drewN_drewN _ _ _) (congrArg (World.drewN _) (Nat.add_assoc _ _ _))⟩); have p203 : 0 ≤ (1 : Int) := (by omega); have q203 : 1 < ((rd_L1 l0_1 x3_1).length : Int) := of_decide_eq_true (by first | (with_reducible assumption) | assumption); obtain ⟨ad203, e203, hx203_0⟩ := ZI HR200_0.out 1 p203 q203; obtain rfl : ad201 = ad203 := (by injection e203); (try simp only [show (1 : Int).toNat = 1 from rfl, Nat.reduceMul, Nat.reduceEqDiff, Go.Addr.add, ↓reduceIte] at hx203_0); have qi203 : (1 < (rd_L1 l0_1 x3_1).length) = True := eq_true (by omega); (try rw [show ((1 : Int)).toNat = 1 from rfl] at hx203_0); replace hx203_0 := (HB.out.cell (World.block_lt_of_cell? w _ hx203_0)).trans hx203_0; replace p203 := eq_true p203; replace q203 := eq_true q203) | (go_at_call 58; refine calls_of_args (args' := #[.int .i64 (rd (rd_L1 l0_1 x3_1) 1), .int .i64 0, .int .i64 (wrap64 (a0_0 - 1))]) ?harg ?_; (case harg => first | rfl | (simp only [Zq, Zr]; rfl) | (simp only [Zq, Zr]; done)); (with_reducible refine (spec_l1In.calls (rd (rd_L1 l0_1 x3_1) 1) 0 (wrap64 (a0_0 - 1)) t204 _ A12.out).mono ?_); rintro e w' ⟨rfl, ⟨nd, rfl⟩⟩; (try first | exact ⟨rfl, _, World.drewN_drewN _ _ _⟩ | exact ⟨rfl, _, Eq.trans (World.drewN_drewN _ _ _) (congrArg (World.drewN _) (Nat.add_assoc _ _ _))⟩))))
          go_meet
          case rel => exact ⟨_, (!t204), (by first | rfl | (simp; done) | (simp [*]; done)), H', ⟨by have := HK1.out; first | omega | exact Nat.le_refl _⟩, ⟨by (with_reducible repeat (first | refine Zg ?_ _ | refine Zh ?_ | refine Zf ?_ _)); exact BK198.out⟩, ⟨by repeat (first | (with_reducible first | exact HB.out | apply Zj | apply Ze | apply Zi | refine Zd ?_ GE198.out) | exact HB.out)⟩⟩
         ·rw [if_neg c11] at H
          exact absurd H (by simp)
        ·replace c10 := Bool.eq_false_iff.mpr c10
         subst c10
         have H1 : (spec_IsGraph.j1 k1 x3_1 (rd_L1 l0_1 x3_1) true a0_0 l0_1) = some r := by rw [if_neg (show ¬ (false = true) by decide)] at H; exact H
         clear H
         have H := H1
         clear H1
         have H' := Aside0.mk H
         clear H
         have p201 : 0 ≤ (0 : Int) := (by omega)
         have q201 : 0 < ((rd_L1 l0_1 x3_1).length : Int) := of_decide_eq_true (by first | (with_reducible assumption) | assumption)
         obtain ⟨ad201, e201, hx201_0⟩ := ZI HR200_0.out 0 p201 q201
         cases e201
         have qi201 : (0 < (rd_L1 l0_1 x3_1).length) = True := eq_true (by omega)
         (try rw [show ((0 : Int)).toNat = 0 from rfl] at hx201_0)
         (try rw [Addr.add_zero'] at hx201_0)
         replace hx201_0 := (HB.out.cell (World.block_lt_of_cell? w _ hx201_0)).trans hx201_0
         replace p201 := eq_true p201
         replace q201 := eq_true q201
         have hcz14_0 : wr.cell? ⟨gb198, 0, none⟩ = some (.int .i64 a0_0) := (Zk BK198.out 0).trans rfl
         have hcz14_1 : wr.cell? ⟨gb198, 1, none⟩ = some (.slice (some ad200) l0_1.length c0_1) := (Zk BK198.out 1).trans rfl
         have hfz14_0 := Zl BK198.out 0
         have hfz14_1 := Zl BK198.out 1
         go_wp2_with (first | (go_at_call 58; refine calls_of_args (args' := #[.int .i64 (rd (rd_L1 l0_1 x3_1) 0), .int .i64 0, .int .i64 (wrap64 (a0_0 - 1))]) ?harg ?_; (case harg => first | rfl | (simp only [Zq, Zr]; rfl) | (simp only [Zq, Zr]; done)); (with_reducible refine (spec_l1In.calls (rd (rd_L1 l0_1 x3_1) 0) 0 (wrap64 (a0_0 - 1)) false _ A9.out).mono ?_); rintro e w' ⟨rfl, ⟨nd, rfl⟩⟩; (try first | exact ⟨rfl, _, World.drewN_drewN _ _ _⟩ | exact ⟨rfl, _, Eq.trans (World.drewN_drewN _ _ _) (congrArg (World.drewN _) (Nat.add_assoc _ _ _))⟩)))
         repeat (go_quiet (first | (go_at_call 58; refine calls_of_args (args' := #[.int .i64 (rd (rd_L1 l0_1 x3_1) 0), .int .i64 0, .int .i64 (wrap64 (a0_0 - 1))]) ?harg ?_; (case harg => first | rfl | (simp only [Zq, Zr]; rfl) | (simp only [Zq, Zr]; done)); (with_reducible refine (spec_l1In.calls (rd (rd_L1 l0_1 x3_1) 0) 0 (wrap64 (a0_0 - 1)) false _ A9.out).mono ?_); rintro e w' ⟨rfl, ⟨nd, rfl⟩⟩; (try first | exact ⟨rfl, _, World.drewN_drewN _ _ _⟩ | exact ⟨rfl, _, Eq.trans (World.drewN_drewN _ _ _) (congrArg (World.drewN _) (Nat.add_assoc _ _ _))⟩))); try go_wp2_with (first | (go_at_call 58; refine calls_of_args (args' := #[.int .i64 (rd (rd_L1 l0_1 x3_1) 0), .int .i64 0, .int .i64 (wrap64 (a0_0 - 1))]) ?harg ?_; (case harg => first | rfl | (simp only [Zq, Zr]; rfl) | (simp only [Zq, Zr]; done)); (with_reducible refine (spec_l1In.calls (rd (rd_L1 l0_1 x3_1) 0) 0 (wrap64 (a0_0 - 1)) false _ A9.out).mono ?_); rintro e w' ⟨rfl, ⟨nd, rfl⟩⟩; (try first | exact ⟨rfl, _, World.drewN_drewN _ _ _⟩ | exact ⟨rfl, _, Eq.trans (World.drewN_drewN _ _ _) (congrArg (World.drewN _) (Nat.add_assoc _ _ _))⟩))))
         go_meet
         case rel => exact ⟨_, (true), (by first | rfl | (simp; done) | (simp [*]; done)), H', ⟨by have := HK1.out; first | omega | exact Nat.le_refl _⟩, ⟨by (with_reducible repeat (first | refine Zg ?_ _ | refine Zh ?_ | refine Zf ?_ _)); exact BK198.out⟩, ⟨by repeat (first | (with_reducible first | exact HB.out | apply Zj | apply Ze | apply Zi | refine Zd ?_ GE198.out) | exact HB.out)⟩⟩
       ·rw [if_neg c8] at H
        exact absurd H (by simp)
      ·rw [if_neg c7] at H
       have c7b0 : (((rd_L1 l0_1 x3_1).length : Int) == 2) = false := beq_eq_false_iff_ne.mpr c7
       have c7b1 : (((rd_L1 l0_1 x3_1).length : Int) != 2) = true := bne_iff_ne.mpr c7
       (first | rw [c7b0] | (simp only [Zq, Zr]; rw [c7b0]) | skip)
       have H' := Aside0.mk H
       clear H
       go_wp2
       repeat (go_quiet (fail); try go_wp2)
       go_meet
       case rel => exact ⟨_, (true), (by first | rfl | (simp; done) | (simp [*]; done)), H', ⟨by have := HK1.out; first | omega | exact Nat.le_refl _⟩, ⟨by (with_reducible repeat (first | refine Zg ?_ _ | refine Zh ?_ | refine Zf ?_ _)); exact BK198.out⟩, ⟨by repeat (first | (with_reducible first | exact HB.out | apply Zj | apply Ze | apply Zi | refine Zd ?_ GE198.out) | exact HB.out)⟩⟩
     case rest =>
      clear HC5
      try clear c1
      try clear c2
      try clear p2
      try clear q2
      try clear hx2
      try clear qi2
      try clear c3
      try clear c3b0
      try clear c4
      try clear c4b0
      try clear c5
      try clear p6
      try clear c7
      try clear c7b0
      try clear c7b1
      try clear c8
      try clear c8b0
      try clear c8b1
      try clear c10
      try clear c11
      try clear c11b0
      try clear c11b1
      try clear hcz13_0
      try clear hcz13_1
      try clear hcz14_0
      try clear hcz14_1
      try clear hcz6_0
      try clear hcz6_1
      try clear hfz13_0
      try clear hfz13_1
      try clear hfz14_0
      try clear hfz14_1
      try clear hfz6_0
      try clear hfz6_1
      try clear hx200_0
      try clear hx201_0
      try clear hx203_0
      try clear p2
      try clear p200
      try clear p201
      try clear p203
      try clear q200
      try clear q201
      try clear q203
      obtain ⟨kq, x40_4, rfl, HA, HJ4, BK198, HB⟩ := hcut
      cases kq with
      | zero => exact absurd HA.out (by simp [spec_IsGraph.j1])
      | succ kj4 =>
       have H := HA.out
       clear HA
       simp only [spec_IsGraph.j1] at H
       by_cases c15 : x40_4 = true
       ·subst c15
        have H1 : (some false) = some r := by rw [if_pos rfl] at H; exact H
        clear H
        have H := H1
        clear H1
        obtain rfl := Option.some.inj H
        go_wp2
        repeat (go_quiet (fail); try go_wp2)
        go_ret
        exact ⟨by first | rfl | (simp [errW_none, errW_some] <;> rfl) | (simp [*, errW_none, errW_some] <;> rfl), by repeat (first | (with_reducible first | exact HB.out | apply Zj | apply Ze | apply Zi | refine Zd ?_ GE198.out) | exact HB.out)⟩
       ·replace c15 := Bool.eq_false_iff.mpr c15
        subst c15
        have H1 : (if x3_1 > 0 then (if 0 ≤ (wrap64 (x3_1 - 1)) then (if (wrap64 (x3_1 - 1)) < (l0_1.length : Int) then (if 0 < ((rd_L1 l0_1 (wrap64 (x3_1 - 1))).length : Int) then (if 0 < ((rd_L1 l0_1 x3_1).length : Int) then (if (rd (rd_L1 l0_1 (wrap64 (x3_1 - 1))) 0) > (rd (rd_L1 l0_1 x3_1) 0) then (some false) else (if (rd (rd_L1 l0_1 (wrap64 (x3_1 - 1))) 0) = (rd (rd_L1 l0_1 x3_1) 0) then (if 1 < ((rd_L1 l0_1 (wrap64 (x3_1 - 1))).length : Int) then (if 1 < ((rd_L1 l0_1 x3_1).length : Int) then (if (rd (rd_L1 l0_1 (wrap64 (x3_1 - 1))) 1) ≥ (rd (rd_L1 l0_1 x3_1) 1) then (some false) else (spec_IsGraph.l0 kj4 (wrap64 (x3_1 + 1)) a0_0 l0_1)) else (none)) else (none)) else (spec_IsGraph.l0 kj4 (wrap64 (x3_1 + 1)) a0_0 l0_1))) else (none)) else (none)) else (none)) else (none)) else (spec_IsGraph.l0 kj4 (wrap64 (x3_1 + 1)) a0_0 l0_1)) = some r := by rw [if_neg (show ¬ (false = true) by decide)] at H; exact H
        clear H
        have H := H1
        clear H1
        by_cases c16 : x3_1 > 0
        ·rw [if_pos c16] at H
         have c16b0 : decide (0 < x3_1) = true := decide_eq_true c16
         clear c16
         obtain ⟨ji17, hji17⟩ : ∃ j_ : Int, (wrap64 (x3_1 - 1)) = j_ := ⟨_, rfl⟩
         replace H : (if 0 ≤ (ji17) then (if (ji17) < (l0_1.length : Int) then (if 0 < ((rd_L1 l0_1 (ji17)).length : Int) then (if 0 < ((rd_L1 l0_1 x3_1).length : Int) then (if (rd (rd_L1 l0_1 (ji17)) 0) > (rd (rd_L1 l0_1 x3_1) 0) then (some false) else (if (rd (rd_L1 l0_1 (ji17)) 0) = (rd (rd_L1 l0_1 x3_1) 0) then (if 1 < ((rd_L1 l0_1 (ji17)).length : Int) then (if 1 < ((rd_L1 l0_1 x3_1).length : Int) then (if (rd (rd_L1 l0_1 (ji17)) 1) ≥ (rd (rd_L1 l0_1 x3_1) 1) then (some false) else (spec_IsGraph.l0 kj4 (wrap64 (x3_1 + 1)) a0_0 l0_1)) else (none)) else (none)) else (spec_IsGraph.l0 kj4 (wrap64 (x3_1 + 1)) a0_0 l0_1))) else (none)) else (none)) else (none)) else (none)) = some r := by first | (rw [hji17] at H; exact H) | (simp only [hji17] at H ⊢; exact H)
         have hji17w : (IntKind.i64.wrap (x3_1 - 1)) = ji17 := (Zq _).trans hji17
         by_cases c18 : 0 ≤ (ji17)
         ·rw [if_pos c18] at H
          have c18b0 : decide (0 ≤ (ji17)) = true := decide_eq_true c18
          clear c18
          by_cases c19 : (ji17) < (l0_1.length : Int)
          ·rw [if_pos c19] at H
           have c19b0 : decide ((ji17) < (l0_1.length : Int)) = true := decide_eq_true c19
           clear c19
           by_cases c20 : 0 < ((rd_L1 l0_1 (ji17)).length : Int)
           ·rw [if_pos c20] at H
            have c20b0 : decide (0 < ((rd_L1 l0_1 (ji17)).length : Int)) = true := decide_eq_true c20
            have c20b1 : decide (0 < (rd_L1 l0_1 (ji17)).length) = true := decide_eq_true (by omega)
            clear c20
            by_cases c21 : 0 < ((rd_L1 l0_1 x3_1).length : Int)
            ·rw [if_pos c21] at H
             have c21b0 : decide (0 < ((rd_L1 l0_1 x3_1).length : Int)) = true := decide_eq_true c21
             have c21b1 : decide (0 < (rd_L1 l0_1 x3_1).length) = true := decide_eq_true (by omega)
             clear c21
             by_cases c22 : (rd (rd_L1 l0_1 (ji17)) 0) > (rd (rd_L1 l0_1 x3_1) 0)
             ·rw [if_pos c22] at H
              have c22b0 : decide ((rd (rd_L1 l0_1 x3_1) 0) < (rd (rd_L1 l0_1 (ji17)) 0)) = true := decide_eq_true c22
              clear c22
              obtain rfl := Option.some.inj H
              have hcz23_0 : wc.cell? ⟨gb198, 0, none⟩ = some (.int .i64 a0_0) := (Zk BK198.out 0).trans rfl
              have hcz23_1 : wc.cell? ⟨gb198, 1, none⟩ = some (.slice (some ad200) l0_1.length c0_1) := (Zk BK198.out 1).trans rfl
              have hfz23_0 := Zl BK198.out 0
              have hfz23_1 := Zl BK198.out 1
              have p205 : 0 ≤ ((ji17) : Int) := of_decide_eq_true (by first | (with_reducible assumption) | assumption)
              have q205 : (ji17) < (l0_1.length : Int) := of_decide_eq_true (by first | (with_reducible assumption) | assumption)
              obtain ⟨ad205, A205_0, c205_0, e205, hx205_0, hl205_0, hi205_0⟩ := at_L1 HR0_1.out (ji17) p205 q205
              obtain rfl : ad200 = ad205 := (by injection e205)
              replace hx205_0 := (HB.out.cell (World.block_lt_of_cell? w _ hx205_0)).trans hx205_0
              have HR205_0 := Aside0.mk hi205_0
              have HC205_0 := Aside0.mk hl205_0
              clear hi205_0 hl205_0
              replace p205 := eq_true p205
              replace q205 := eq_true q205
              have p206 : 0 ≤ (0 : Int) := (by omega)
              have q206 : 0 < ((rd_L1 l0_1 (ji17)).length : Int) := of_decide_eq_true (by first | (with_reducible assumption) | assumption)
              obtain ⟨ad206, e206, hx206_0⟩ := ZI HR205_0.out 0 p206 q206
              cases e206
              have qi206 : (0 < (rd_L1 l0_1 (ji17)).length) = True := eq_true (by omega)
              (try rw [show ((0 : Int)).toNat = 0 from rfl] at hx206_0)
              (try rw [Addr.add_zero'] at hx206_0)
              replace hx206_0 := (HB.out.cell (World.block_lt_of_cell? w _ hx206_0)).trans hx206_0
              replace p206 := eq_true p206
              replace q206 := eq_true q206
              have p207 : 0 ≤ (0 : Int) := (by omega)
              have q207 : 0 < ((rd_L1 l0_1 x3_1).length : Int) := of_decide_eq_true (by first | (with_reducible assumption) | assumption)
              obtain ⟨ad207, e207, hx207_0⟩ := ZI HR200_0.out 0 p207 q207
              cases e207
              have qi207 : (0 < (rd_L1 l0_1 x3_1).length) = True := eq_true (by omega)
              (try rw [show ((0 : Int)).toNat = 0 from rfl] at hx207_0)
              (try rw [Addr.add_zero'] at hx207_0)
              replace hx207_0 := (HB.out.cell (World.block_lt_of_cell? w _ hx207_0)).trans hx207_0
              replace p207 := eq_true p207
              replace q207 := eq_true q207
              go_wp2
              repeat (go_quiet (fail); try go_wp2)
              go_ret
              exact ⟨by first | rfl | (simp [errW_none, errW_some] <;> rfl) | (simp only [← hji17]; first | rfl | (simp [errW_none, errW_some] <;> rfl)) | (simp [*, errW_none, errW_some] <;> rfl), by repeat (first | (with_reducible first | exact HB.out | apply Zj | apply Ze | apply Zi | refine Zd ?_ GE198.out) | exact HB.out)⟩
             ·rw [if_neg c22] at H
              have c22b0 : decide ((rd (rd_L1 l0_1 x3_1) 0) < (rd (rd_L1 l0_1 (ji17)) 0)) = false := decide_eq_false c22
              clear c22
              by_cases c24 : (rd (rd_L1 l0_1 (ji17)) 0) = (rd (rd_L1 l0_1 x3_1) 0)
              ·rw [if_pos c24] at H
               have c24b0 : ((rd (rd_L1 l0_1 (ji17)) 0) == (rd (rd_L1 l0_1 x3_1) 0)) = true := beq_iff_eq.mpr c24
               have c24b1 : ((rd (rd_L1 l0_1 (ji17)) 0) != (rd (rd_L1 l0_1 x3_1) 0)) = false := bne_eq_false_iff_eq.mpr c24
               clear c24
               by_cases c25 : 1 < ((rd_L1 l0_1 (ji17)).length : Int)
               ·rw [if_pos c25] at H
                have c25b0 : decide (1 < ((rd_L1 l0_1 (ji17)).length : Int)) = true := decide_eq_true c25
                have c25b1 : decide (1 < (rd_L1 l0_1 (ji17)).length) = true := decide_eq_true (by omega)
                clear c25
                by_cases c26 : 1 < ((rd_L1 l0_1 x3_1).length : Int)
                ·rw [if_pos c26] at H
                 have c26b0 : decide (1 < ((rd_L1 l0_1 x3_1).length : Int)) = true := decide_eq_true c26
                 have c26b1 : decide (1 < (rd_L1 l0_1 x3_1).length) = true := decide_eq_true (by omega)
                 clear c26
                 by_cases c27 : (rd (rd_L1 l0_1 (ji17)) 1) ≥ (rd (rd_L1 l0_1 x3_1) 1)
                 ·rw [if_pos c27] at H
                  have c27b0 : decide ((rd (rd_L1 l0_1 x3_1) 1) ≤ (rd (rd_L1 l0_1 (ji17)) 1)) = true := decide_eq_true c27
                  clear c27
                  obtain rfl := Option.some.inj H
                  have hcz28_0 : wc.cell? ⟨gb198, 0, none⟩ = some (.int .i64 a0_0) := (Zk BK198.out 0).trans rfl
                  have hcz28_1 : wc.cell? ⟨gb198, 1, none⟩ = some (.slice (some ad200) l0_1.length c0_1) := (Zk BK198.out 1).trans rfl
                  have hfz28_0 := Zl BK198.out 0
                  have hfz28_1 := Zl BK198.out 1
                  have p205 : 0 ≤ ((ji17) : Int) := of_decide_eq_true (by first | (with_reducible assumption) | assumption)
                  have q205 : (ji17) < (l0_1.length : Int) := of_decide_eq_true (by first | (with_reducible assumption) | assumption)
                  obtain ⟨ad205, A205_0, c205_0, e205, hx205_0, hl205_0, hi205_0⟩ := at_L1 HR0_1.out (ji17) p205 q205
                  obtain rfl : ad200 = ad205 := (by injection e205)
                  replace hx205_0 := (HB.out.cell (World.block_lt_of_cell? w _ hx205_0)).trans hx205_0
                  have HR205_0 := Aside0.mk hi205_0
                  have HC205_0 := Aside0.mk hl205_0
                  clear hi205_0 hl205_0
                  replace p205 := eq_true p205
                  replace q205 := eq_true q205
                  have p206 : 0 ≤ (0 : Int) := (by omega)
                  have q206 : 0 < ((rd_L1 l0_1 (ji17)).length : Int) := of_decide_eq_true (by first | (with_reducible assumption) | assumption)
                  obtain ⟨ad206, e206, hx206_0⟩ := ZI HR205_0.out 0 p206 q206
                  cases e206
                  have qi206 : (0 < (rd_L1 l0_1 (ji17)).length) = True := eq_true (by omega)
                  (try rw [show ((0 : Int)).toNat = 0 from rfl] at hx206_0)
                  (try rw [Addr.add_zero'] at hx206_0)
                  replace hx206_0 := (HB.out.cell (World.block_lt_of_cell? w _ hx206_0)).trans hx206_0
                  replace p206 := eq_true p206
                  replace q206 := eq_true q206
                  have p207 : 0 ≤ (0 : Int) := (by omega)
                  have q207 : 0 < ((rd_L1 l0_1 x3_1).length : Int) := of_decide_eq_true (by first | (with_reducible assumption) | assumption)
                  obtain ⟨ad207, e207, hx207_0⟩ := ZI HR200_0.out 0 p207 q207
                  cases e207
                  have qi207 : (0 < (rd_L1 l0_1 x3_1).length) = True := eq_true (by omega)
                  (try rw [show ((0 : Int)).toNat = 0 from rfl] at hx207_0)
                  (try rw [Addr.add_zero'] at hx207_0)
                  replace hx207_0 := (HB.out.cell (World.block_lt_of_cell? w _ hx207_0)).trans hx207_0
                  replace p207 := eq_true p207
                  replace q207 := eq_true q207
                  have p208 : 0 ≤ (0 : Int) := (by omega)
                  have q208 : 0 < ((rd_L1 l0_1 (ji17)).length : Int) := of_decide_eq_true (by first | (with_reducible assumption) | assumption)
                  obtain ⟨ad208, e208, hx208_0⟩ := ZI HR205_0.out 0 p208 q208
                  obtain rfl : ad206 = ad208 := (by injection e208)
                  have qi208 : (0 < (rd_L1 l0_1 (ji17)).length) = True := eq_true (by omega)
                  (try rw [show ((0 : Int)).toNat = 0 from rfl] at hx208_0)
                  (try rw [Addr.add_zero'] at hx208_0)
                  replace hx208_0 := (HB.out.cell (World.block_lt_of_cell? w _ hx208_0)).trans hx208_0
                  replace p208 := eq_true p208
                  replace q208 := eq_true q208
                  have p209 : 0 ≤ (0 : Int) := (by omega)
                  have q209 : 0 < ((rd_L1 l0_1 x3_1).length : Int) := of_decide_eq_true (by first | (with_reducible assumption) | assumption)
                  obtain ⟨ad209, e209, hx209_0⟩ := ZI HR200_0.out 0 p209 q209
                  obtain rfl : ad207 = ad209 := (by injection e209)
                  have qi209 : (0 < (rd_L1 l0_1 x3_1).length) = True := eq_true (by omega)
                  (try rw [show ((0 : Int)).toNat = 0 from rfl] at hx209_0)
                  (try rw [Addr.add_zero'] at hx209_0)
                  replace hx209_0 := (HB.out.cell (World.block_lt_of_cell? w _ hx209_0)).trans hx209_0
                  replace p209 := eq_true p209
                  replace q209 := eq_true q209
                  have p210 : 0 ≤ (1 : Int) := (by omega)
                  have q210 : 1 < ((rd_L1 l0_1 (ji17)).length : Int) := of_decide_eq_true (by first | (with_reducible assumption) | assumption)
                  obtain ⟨ad210, e210, hx210_0⟩ := ZI HR205_0.out 1 p210 q210
                  obtain rfl : ad206 = ad210 := (by injection e210)
                  (try simp only [show (1 : Int).toNat = 1 from rfl, Nat.reduceMul, Nat.reduceEqDiff, Go.Addr.add, ↓reduceIte] at hx210_0)
                  have qi210 : (1 < (rd_L1 l0_1 (ji17)).length) = True := eq_true (by omega)
                  (try rw [show ((1 : Int)).toNat = 1 from rfl] at hx210_0)
                  replace hx210_0 := (HB.out.cell (World.block_lt_of_cell? w _ hx210_0)).trans hx210_0
                  replace p210 := eq_true p210
                  replace q210 := eq_true q210
                  have p211 : 0 ≤ (1 : Int) := (by omega)
                  have q211 : 1 < ((rd_L1 l0_1 x3_1).length : Int) := of_decide_eq_true (by first | (with_reducible assumption) | assumption)
                  obtain ⟨ad211, e211, hx211_0⟩ := ZI HR200_0.out 1 p211 q211
                  obtain rfl : ad207 = ad211 := (by injection e211)
                  (try simp only [show (1 : Int).toNat = 1 from rfl, Nat.reduceMul, Nat.reduceEqDiff, Go.Addr.add, ↓reduceIte] at hx211_0)
                  have qi211 : (1 < (rd_L1 l0_1 x3_1).length) = True := eq_true (by omega)
                  (try rw [show ((1 : Int)).toNat = 1 from rfl] at hx211_0)
                  replace hx211_0 := (HB.out.cell (World.block_lt_of_cell? w _ hx211_0)).trans hx211_0
                  replace p211 := eq_true p211
                  replace q211 := eq_true q211
                  go_wp2
                  repeat (go_quiet (fail); try go_wp2)
                  go_ret
                  exact ⟨by first | rfl | (simp [errW_none, errW_some] <;> rfl) | (simp only [← hji17]; first | rfl | (simp [errW_none, errW_some] <;> rfl)) | (simp [*, errW_none, errW_some] <;> rfl), by repeat (first | (with_reducible first | exact HB.out | apply Zj | apply Ze | apply Zi | refine Zd ?_ GE198.out) | exact HB.out)⟩
                 ·rw [if_neg c27] at H
                  have c27b0 : decide ((rd (rd_L1 l0_1 x3_1) 1) ≤ (rd (rd_L1 l0_1 (ji17)) 1)) = false := decide_eq_false c27
                  clear c27
                  have H' := Aside0.mk H
                  clear H
                  have hcz29_0 : wc.cell? ⟨gb198, 0, none⟩ = some (.int .i64 a0_0) := (Zk BK198.out 0).trans rfl
                  have hcz29_1 : wc.cell? ⟨gb198, 1, none⟩ = some (.slice (some ad200) l0_1.length c0_1) := (Zk BK198.out 1).trans rfl
                  have hfz29_0 := Zl BK198.out 0
                  have hfz29_1 := Zl BK198.out 1
                  have p205 : 0 ≤ ((ji17) : Int) := of_decide_eq_true (by first | (with_reducible assumption) | assumption)
                  have q205 : (ji17) < (l0_1.length : Int) := of_decide_eq_true (by first | (with_reducible assumption) | assumption)
                  obtain ⟨ad205, A205_0, c205_0, e205, hx205_0, hl205_0, hi205_0⟩ := at_L1 HR0_1.out (ji17) p205 q205
                  obtain rfl : ad200 = ad205 := (by injection e205)
                  replace hx205_0 := (HB.out.cell (World.block_lt_of_cell? w _ hx205_0)).trans hx205_0
                  have HR205_0 := Aside0.mk hi205_0
                  have HC205_0 := Aside0.mk hl205_0
                  clear hi205_0 hl205_0
                  replace p205 := eq_true p205
                  replace q205 := eq_true q205
                  have p206 : 0 ≤ (0 : Int) := (by omega)
                  have q206 : 0 < ((rd_L1 l0_1 (ji17)).length : Int) := of_decide_eq_true (by first | (with_reducible assumption) | assumption)
                  obtain ⟨ad206, e206, hx206_0⟩ := ZI HR205_0.out 0 p206 q206
                  cases e206
                  have qi206 : (0 < (rd_L1 l0_1 (ji17)).length) = True := eq_true (by omega)
                  (try rw [show ((0 : Int)).toNat = 0 from rfl] at hx206_0)
                  (try rw [Addr.add_zero'] at hx206_0)
                  replace hx206_0 := (HB.out.cell (World.block_lt_of_cell? w _ hx206_0)).trans hx206_0
                  replace p206 := eq_true p206
                  replace q206 := eq_true q206
                  have p207 : 0 ≤ (0 : Int) := (by omega)
                  have q207 : 0 < ((rd_L1 l0_1 x3_1).length : Int) := of_decide_eq_true (by first | (with_reducible assumption) | assumption)
                  obtain ⟨ad207, e207, hx207_0⟩ := ZI HR200_0.out 0 p207 q207
                  cases e207
                  have qi207 : (0 < (rd_L1 l0_1 x3_1).length) = True := eq_true (by omega)
                  (try rw [show ((0 : Int)).toNat = 0 from rfl] at hx207_0)
                  (try rw [Addr.add_zero'] at hx207_0)
                  replace hx207_0 := (HB.out.cell (World.block_lt_of_cell? w _ hx207_0)).trans hx207_0
                  replace p207 := eq_true p207
                  replace q207 := eq_true q207
                  have p208 : 0 ≤ (0 : Int) := (by omega)
                  have q208 : 0 < ((rd_L1 l0_1 (ji17)).length : Int) := of_decide_eq_true (by first | (with_reducible assumption) | assumption)
                  obtain ⟨ad208, e208, hx208_0⟩ := ZI HR205_0.out 0 p208 q208
                  obtain rfl : ad206 = ad208 := (by injection e208)
                  have qi208 : (0 < (rd_L1 l0_1 (ji17)).length) = True := eq_true (by omega)
                  (try rw [show ((0 : Int)).toNat = 0 from rfl] at hx208_0)
                  (try rw [Addr.add_zero'] at hx208_0)
                  replace hx208_0 := (HB.out.cell (World.block_lt_of_cell? w _ hx208_0)).trans hx208_0
                  replace p208 := eq_true p208
                  replace q208 := eq_true q208
                  have p209 : 0 ≤ (0 : Int) := (by omega)
                  have q209 : 0 < ((rd_L1 l0_1 x3_1).length : Int) := of_decide_eq_true (by first | (with_reducible assumption) | assumption)
                  obtain ⟨ad209, e209, hx209_0⟩ := ZI HR200_0.out 0 p209 q209
                  obtain rfl : ad207 = ad209 := (by injection e209)
                  have qi209 : (0 < (rd_L1 l0_1 x3_1).length) = True := eq_true (by omega)
                  (try rw [show ((0 : Int)).toNat = 0 from rfl] at hx209_0)
                  (try rw [Addr.add_zero'] at hx209_0)
                  replace hx209_0 := (HB.out.cell (World.block_lt_of_cell? w _ hx209_0)).trans hx209_0
                  replace p209 := eq_true p209
                  replace q209 := eq_true q209
                  have p210 : 0 ≤ (1 : Int) := (by omega)
                  have q210 : 1 < ((rd_L1 l0_1 (ji17)).length : Int) := of_decide_eq_true (by first | (with_reducible assumption) | assumption)
                  obtain ⟨ad210, e210, hx210_0⟩ := ZI HR205_0.out 1 p210 q210
                  obtain rfl : ad206 = ad210 := (by injection e210)
                  (try simp only [show (1 : Int).toNat = 1 from rfl, Nat.reduceMul, Nat.reduceEqDiff, Go.Addr.add, ↓reduceIte] at hx210_0)
                  have qi210 : (1 < (rd_L1 l0_1 (ji17)).length) = True := eq_true (by omega)
                  (try rw [show ((1 : Int)).toNat = 1 from rfl] at hx210_0)
                  replace hx210_0 := (HB.out.cell (World.block_lt_of_cell? w _ hx210_0)).trans hx210_0
                  replace p210 := eq_true p210
                  replace q210 := eq_true q210
                  have p211 : 0 ≤ (1 : Int) := (by omega)
                  have q211 : 1 < ((rd_L1 l0_1 x3_1).length : Int) := of_decide_eq_true (by first | (with_reducible assumption) | assumption)
                  obtain ⟨ad211, e211, hx211_0⟩ := ZI HR200_0.out 1 p211 q211
                  obtain rfl : ad207 = ad211 := (by injection e211)
                  (try simp only [show (1 : Int).toNat = 1 from rfl, Nat.reduceMul, Nat.reduceEqDiff, Go.Addr.add, ↓reduceIte] at hx211_0)
                  have qi211 : (1 < (rd_L1 l0_1 x3_1).length) = True := eq_true (by omega)
                  (try rw [show ((1 : Int)).toNat = 1 from rfl] at hx211_0)
                  replace hx211_0 := (HB.out.cell (World.block_lt_of_cell? w _ hx211_0)).trans hx211_0
                  replace p211 := eq_true p211
                  replace q211 := eq_true q211
                  go_wp2
                  repeat (go_quiet (fail); try go_wp2)
                  go_roundg kj4
                  case measure => have := HK1.out; have := HJ4.out; omega
                  case rel => exact ⟨(wrap64 (x3_1 + 1)), (by first | rfl | (simp; done) | (simp [*]; done)), H', ⟨by have := HK1.out; have := HJ4.out; omega⟩, ⟨by (with_reducible repeat (first | refine Zg ?_ _ | refine Zh ?_ | refine Zf ?_ _)); exact BK198.out⟩, ⟨by repeat (first | (with_reducible first | exact HB.out | apply Zj | apply Ze | apply Zi | refine Zd ?_ GE198.out) | exact HB.out)⟩⟩
                ·rw [if_neg c26] at H
                 exact absurd H (by simp)
               ·rw [if_neg c25] at H
                exact absurd H (by simp)
              ·rw [if_neg c24] at H
               have c24b0 : ((rd (rd_L1 l0_1 (ji17)) 0) == (rd (rd_L1 l0_1 x3_1) 0)) = false := beq_eq_false_iff_ne.mpr c24
               have c24b1 : ((rd (rd_L1 l0_1 (ji17)) 0) != (rd (rd_L1 l0_1 x3_1) 0)) = true := bne_iff_ne.mpr c24
               have H' := Aside0.mk H
               clear H
               have hcz30_0 : wc.cell? ⟨gb198, 0, none⟩ = some (.int .i64 a0_0) := (Zk BK198.out 0).trans rfl
               have hcz30_1 : wc.cell? ⟨gb198, 1, none⟩ = some (.slice (some ad200) l0_1.length c0_1) := (Zk BK198.out 1).trans rfl
               have hfz30_0 := Zl BK198.out 0
               have hfz30_1 := Zl BK198.out 1
               have p205 : 0 ≤ ((ji17) : Int) := of_decide_eq_true (by first | (with_reducible assumption) | assumption)
               have q205 : (ji17) < (l0_1.length : Int) := of_decide_eq_true (by first | (with_reducible assumption) | assumption)
               obtain ⟨ad205, A205_0, c205_0, e205, hx205_0, hl205_0, hi205_0⟩ := at_L1 HR0_1.out (ji17) p205 q205
               obtain rfl : ad200 = ad205 := (by injection e205)
               replace hx205_0 := (HB.out.cell (World.block_lt_of_cell? w _ hx205_0)).trans hx205_0
               have HR205_0 := Aside0.mk hi205_0
               have HC205_0 := Aside0.mk hl205_0
               clear hi205_0 hl205_0
               replace p205 := eq_true p205
               replace q205 := eq_true q205
               have p206 : 0 ≤ (0 : Int) := (by omega)
               have q206 : 0 < ((rd_L1 l0_1 (ji17)).length : Int) := of_decide_eq_true (by first | (with_reducible assumption) | assumption)
               obtain ⟨ad206, e206, hx206_0⟩ := ZI HR205_0.out 0 p206 q206
               cases e206
               have qi206 : (0 < (rd_L1 l0_1 (ji17)).length) = True := eq_true (by omega)
               (try rw [show ((0 : Int)).toNat = 0 from rfl] at hx206_0)
               (try rw [Addr.add_zero'] at hx206_0)
               replace hx206_0 := (HB.out.cell (World.block_lt_of_cell? w _ hx206_0)).trans hx206_0
               replace p206 := eq_true p206
               replace q206 := eq_true q206
               have p207 : 0 ≤ (0 : Int) := (by omega)
               have q207 : 0 < ((rd_L1 l0_1 x3_1).length : Int) := of_decide_eq_true (by first | (with_reducible assumption) | assumption)
               obtain ⟨ad207, e207, hx207_0⟩ := ZI HR200_0.out 0 p207 q207
               cases e207
               have qi207 : (0 < (rd_L1 l0_1 x3_1).length) = True := eq_true (by omega)
               (try rw [show ((0 : Int)).toNat = 0 from rfl] at hx207_0)
               (try rw [Addr.add_zero'] at hx207_0)
               replace hx207_0 := (HB.out.cell (World.block_lt_of_cell? w _ hx207_0)).trans hx207_0
               replace p207 := eq_true p207
               replace q207 := eq_true q207
               have p208 : 0 ≤ (0 : Int) := (by omega)
               have q208 : 0 < ((rd_L1 l0_1 (ji17)).length : Int) := of_decide_eq_true (by first | (with_reducible assumption) | assumption)
               obtain ⟨ad208, e208, hx208_0⟩ := ZI HR205_0.out 0 p208 q208
               obtain rfl : ad206 = ad208 := (by injection e208)
               have qi208 : (0 < (rd_L1 l0_1 (ji17)).length) = True := eq_true (by omega)
               (try rw [show ((0 : Int)).toNat = 0 from rfl] at hx208_0)
               (try rw [Addr.add_zero'] at hx208_0)
               replace hx208_0 := (HB.out.cell (World.block_lt_of_cell? w _ hx208_0)).trans hx208_0
               replace p208 := eq_true p208
               replace q208 := eq_true q208
               have p209 : 0 ≤ (0 : Int) := (by omega)
               have q209 : 0 < ((rd_L1 l0_1 x3_1).length : Int) := of_decide_eq_true (by first | (with_reducible assumption) | assumption)
               obtain ⟨ad209, e209, hx209_0⟩ := ZI HR200_0.out 0 p209 q209
               obtain rfl : ad207 = ad209 := (by injection e209)
               have qi209 : (0 < (rd_L1 l0_1 x3_1).length) = True := eq_true (by omega)
               (try rw [show ((0 : Int)).toNat = 0 from rfl] at hx209_0)
               (try rw [Addr.add_zero'] at hx209_0)
               replace hx209_0 := (HB.out.cell (World.block_lt_of_cell? w _ hx209_0)).trans hx209_0
               replace p209 := eq_true p209
               replace q209 := eq_true q209
               go_wp2
               repeat (go_quiet (fail); try go_wp2)
               go_roundg kj4
               case measure => have := HK1.out; have := HJ4.out; omega
               case rel => exact ⟨(wrap64 (x3_1 + 1)), (by first | rfl | (simp; done) | (simp [*]; done)), H', ⟨by have := HK1.out; have := HJ4.out; omega⟩, ⟨by (with_reducible repeat (first | refine Zg ?_ _ | refine Zh ?_ | refine Zf ?_ _)); exact BK198.out⟩, ⟨by repeat (first | (with_reducible first | exact HB.out | apply Zj | apply Ze | apply Zi | refine Zd ?_ GE198.out) | exact HB.out)⟩⟩
            ·rw [if_neg c21] at H
             exact absurd H (by simp)
           ·rw [if_neg c20] at H
            exact absurd H (by simp)
          ·rw [if_neg c19] at H
           exact absurd H (by simp)
         ·rw [if_neg c18] at H
          exact absurd H (by simp)
        ·rw [if_neg c16] at H
         have c16b0 : decide (0 < x3_1) = false := decide_eq_false c16
         clear c16
         have H' := Aside0.mk H
         clear H
         go_wp2
         repeat (go_quiet (fail); try go_wp2)
         go_roundg kj4
         case measure => have := HK1.out; have := HJ4.out; omega
         case rel => exact ⟨(wrap64 (x3_1 + 1)), (by first | rfl | (simp; done) | (simp [*]; done)), H', ⟨by have := HK1.out; have := HJ4.out; omega⟩, ⟨by (with_reducible repeat (first | refine Zg ?_ _ | refine Zh ?_ | refine Zf ?_ _)); exact BK198.out⟩, ⟨by repeat (first | (with_reducible first | exact HB.out | apply Zj | apply Ze | apply Zi | refine Zd ?_ GE198.out) | exact HB.out)⟩⟩
    ·rw [if_neg c4] at H
     exact absurd H (by simp)
   ·rw [if_neg c3] at H
    have c3b0 : decide (x3_1 < (l0_1.length : Int)) = false := decide_eq_false c3
    clear c3
    replace H := Option.bind_eq_some_iff.mp H
    obtain ⟨t199, A310, H⟩ := H
    replace H : (some t199) = some r := H
    have A31 := Aside0.mk A310
    clear A310
    obtain rfl := Option.some.inj H
    have hcz32_0 : wr.cell? ⟨gb198, 0, none⟩ = some (.int .i64 a0_0) := (Zk BK198.out 0).trans rfl
    have hcz32_1 : wr.cell? ⟨gb198, 1, none⟩ = some (.slice A0_1 l0_1.length c0_1) := (Zk BK198.out 1).trans rfl
    have hfz32_0 := Zl BK198.out 0
    have hfz32_1 := Zl BK198.out 1
    go_wp2_with (first | (go_at_call 58; (with_reducible refine (spec_l1In.calls a0_0 0 10 t199 _ A31.out).mono ?_); rintro e w' ⟨rfl, ⟨nd, rfl⟩⟩; (try first | exact ⟨rfl, _, World.drewN_drewN _ _ _⟩ | exact ⟨rfl, _, Eq.trans (World.drewN_drewN _ _ _) (congrArg (World.drewN _) (Nat.add_assoc _ _ _))⟩)))
    repeat (go_quiet (first | (go_at_call 58; (with_reducible refine (spec_l1In.calls a0_0 0 10 t199 _ A31.out).mono ?_); rintro e w' ⟨rfl, ⟨nd, rfl⟩⟩; (try first | exact ⟨rfl, _, World.drewN_drewN _ _ _⟩ | exact ⟨rfl, _, Eq.trans (World.drewN_drewN _ _ _) (congrArg (World.drewN _) (Nat.add_assoc _ _ _))⟩))); try go_wp2_with (first | (go_at_call 58; (with_reducible refine (spec_l1In.calls a0_0 0 10 t199 _ A31.out).mono ?_); rintro e w' ⟨rfl, ⟨nd, rfl⟩⟩; (try first | exact ⟨rfl, _, World.drewN_drewN _ _ _⟩ | exact ⟨rfl, _, Eq.trans (World.drewN_drewN _ _ _) (congrArg (World.drewN _) (Nat.add_assoc _ _ _))⟩))))
    go_ret
    exact ⟨by first | rfl | (simp [errW_none, errW_some] <;> rfl) | (simp [*, errW_none, errW_some] <;> rfl), by repeat (first | (with_reducible first | exact HB.out | apply Zj | apply Ze | apply Zi | refine Zd ?_ GE198.out) | exact HB.out)⟩

end Go.Proofs.Ytdlobolnajcfnaa.PFnExactRenamed
