-- Written by a program of this session (hooks of mine on the print): Lean checks it.
import Derived.Test.YtdlobolnajcfnaaPFnGamesx0
import Derived.Test.YtdlobolnajcfnaaPFnGamesx9
namespace Go.Proofs.Ytdlobolnajcfnaa.PFnGames
open Go.RowKit Go.Proofs.YtdlobolnajcfnaaW.PrintWords Go.Proofs.YtdlobolnajcfnaaW.PrintLast Go.Proofs.YtdlobolnajcfnaaW.PrintMore
attribute [local go_sem] max2_int min2_int max_two min_two max_three min_three max_four min_four   -- for this text's walks alone
set_option linter.unusedVariables false
set_option linter.unusedSimpArgs false

/-! ### spec_IsGraph: function 57 -/
mutual
def spec_IsGraph.l0 : Nat → Int → Int → List (List Int) → Option (Bool)
 | 0, _, _, _ => none
 | k + 1, x3, x237000, x237001 => if x3 < (x237001.length : Int) then (if 0 ≤ x3 then (if ((rd_L1 x237001 x3).length : Int) = 2 then (if 0 < ((rd_L1 x237001 x3).length : Int) then ((spec_l1In.f (rd (rd_L1 x237001 x3) 0) 0 (wrap64 (x237000 - 1))).bind fun t240 => (if t240 = true then (if 1 < ((rd_L1 x237001 x3).length : Int) then ((spec_l1In.f (rd (rd_L1 x237001 x3) 1) 0 (wrap64 (x237000 - 1))).bind fun t242 => (spec_IsGraph.j1 k x3 (rd_L1 x237001 x3) (!t242) x237000 x237001)) else (none)) else (spec_IsGraph.j1 k x3 (rd_L1 x237001 x3) true x237000 x237001))) else (none)) else (spec_IsGraph.j1 k x3 (rd_L1 x237001 x3) true x237000 x237001)) else (none)) else ((spec_l1In.f x237000 0 10).bind fun t237 => (some t237))
def spec_IsGraph.j1 : Nat → Int → List Int → Bool → Int → List (List Int) → Option (Bool)
 | 0, _, _, _, _, _ => none
 | k + 1, x3, x4, x40, x237000, x237001 => if x40 = true then (some false) else (if x3 > 0 then (if 0 ≤ (wrap64 (x3 - 1)) then (if (wrap64 (x3 - 1)) < (x237001.length : Int) then (if 0 < ((rd_L1 x237001 (wrap64 (x3 - 1))).length : Int) then (if 0 < (x4.length : Int) then (if (rd (rd_L1 x237001 (wrap64 (x3 - 1))) 0) > (rd x4 0) then (some false) else (if (rd (rd_L1 x237001 (wrap64 (x3 - 1))) 0) = (rd x4 0) then (if 1 < ((rd_L1 x237001 (wrap64 (x3 - 1))).length : Int) then (if 1 < (x4.length : Int) then (if (rd (rd_L1 x237001 (wrap64 (x3 - 1))) 1) ≥ (rd x4 1) then (some false) else (spec_IsGraph.l0 k (wrap64 (x3 + 1)) x237000 x237001)) else (none)) else (none)) else (spec_IsGraph.l0 k (wrap64 (x3 + 1)) x237000 x237001))) else (none)) else (none)) else (none)) else (none)) else (spec_IsGraph.l0 k (wrap64 (x3 + 1)) x237000 x237001))
end
def spec_IsGraph.f (k : Nat) (a0_0 : Int) (l0_1 : List (List Int)) : Option (Bool) := spec_IsGraph.l0 k 0 a0_0 l0_1
theorem spec_IsGraph.mono_l : ∀ k, (∀ y0 y1 y2, LeO (spec_IsGraph.l0 k y0 y1 y2) (spec_IsGraph.l0 (k + 1) y0 y1 y2)) ∧ (∀ y0 y1 y2 y3 y4, LeO (spec_IsGraph.j1 k y0 y1 y2 y3 y4) (spec_IsGraph.j1 (k + 1) y0 y1 y2 y3 y4))
 | 0 => ⟨fun _ _ _ r h => by simp [spec_IsGraph.l0] at h, fun _ _ _ _ _ r h => by simp [spec_IsGraph.j1] at h⟩
 | k + 1 => by
  obtain ⟨ih0, ih1⟩ := spec_IsGraph.mono_l k
  refine ⟨?_, ?_⟩
  ·intro y0 y1 y2
   unfold spec_IsGraph.l0
   repeat' first
   | (with_reducible exact ih0 _ _ _)
   | (with_reducible exact ih1 _ _ _ _ _)
   | (with_reducible exact ZJ _)
   | (with_reducible exact Zn _)
   | (with_reducible refine Zt ?_ ?_)
   | (with_reducible refine Zo ?_ (fun _ => ?_))
   | exact ih0 _ _ _
   | exact ih1 _ _ _ _ _
   | exact Zn _
   | refine Zt ?_ ?_
   | refine Zo ?_ (fun _ => ?_)
  ·intro y0 y1 y2 y3 y4
   unfold spec_IsGraph.j1
   repeat' first
   | (with_reducible exact ih0 _ _ _)
   | (with_reducible exact ih1 _ _ _ _ _)
   | (with_reducible exact ZJ _)
   | (with_reducible exact Zn _)
   | (with_reducible refine Zt ?_ ?_)
   | (with_reducible refine Zo ?_ (fun _ => ?_))
   | exact ih0 _ _ _
   | exact ih1 _ _ _ _ _
   | exact Zn _
   | refine Zt ?_ ?_
   | refine Zo ?_ (fun _ => ?_)
theorem spec_IsGraph.mono : ∀ a0 a1 k, LeO (spec_IsGraph.f k a0 a1) (spec_IsGraph.f (k + 1) a0 a1) := by
 intro a0 a1 k
 obtain ⟨ih0, ih1⟩ := spec_IsGraph.mono_l k
 unfold spec_IsGraph.f
 repeat' first
   | (with_reducible exact ih0 _ _ _)
   | (with_reducible exact ih1 _ _ _ _ _)
   | (with_reducible exact ZJ _)
   | (with_reducible exact Zn _)
   | (with_reducible refine Zt ?_ ?_)
   | (with_reducible refine Zo ?_ (fun _ => ?_))
   | exact ih0 _ _ _
   | exact ih1 _ _ _ _ _
   | exact Zn _
   | refine Zt ?_ ?_
   | refine Zo ?_ (fun _ => ?_)
set_option maxHeartbeats 8000000 in
set_option maxRecDepth 100000 in
theorem spec_IsGraph.calls (k : Nat) (a0_0 : Int) (A0_1 : Option Addr) (c0_1 : Nat) (l0_1 : List (List Int)) (r : Bool) (w : World) (hr0_1 : Kd.C (Kd.slice 3 (Kd.int .i64)) w A0_1 l0_1.length l0_1) (hc0_1 : l0_1.length ≤ c0_1) (h : spec_IsGraph.f k a0_0 l0_1 = some r) :
  Calls Try.prog 57 #[.agg #[.int .i64 a0_0, .slice A0_1 l0_1.length c0_1]] w fun e w' => e = .returned (.bool r) ∧ Below w.heap.size w w' := by
 have hu27 := Try.underlying27
 have HR0_1 := Aside0.mk hr0_1
 have HC0_1 := Aside0.mk hc0_1
 clear hr0_1 hc0_1
 have HB := Aside0.mk (Below.refl w.heap.size w)
 have H : (spec_IsGraph.l0 k 0 a0_0 l0_1) = some r := h
 clear h
 have H' := Aside0.mk H
 clear H
 go_enter Try.func57, Try.ntmps57
 go_wp2_with (first | ((with_reducible refine ZD (N := 1) rfl ?_); refine ZH ?hg (N := 1) ?hd (cs := #[.int .i64 a0_0, .slice A0_1 l0_1.length c0_1]) (t := 27) ?hr ?_; (case hd => rfl); (case hg => rfl); (case hr => first | (go_simp; done) | (go_simp; rfl)); intro gb236 hg w2 hbox hb; have BK236 := Aside0.mk (hbox); have GW236 := Aside0.mk ((hz_ hg : w.heap.size ≤ gb236)); have GE236 := Aside0.mk ((hz_ hg : w.heap.size ≤ gb236)); replace HB := Aside0.mk (Ze hB_ hb); clear hb hbox hg))
 repeat (go_quiet (first | ((with_reducible refine ZD (N := 1) rfl ?_); refine ZH ?hg (N := 1) ?hd (cs := #[.int .i64 a0_0, .slice A0_1 l0_1.length c0_1]) (t := 27) ?hr ?_; (case hd => rfl); (case hg => rfl); (case hr => first | (go_simp; done) | (go_simp; rfl)); intro gb236 hg w2 hbox hb; have BK236 := Aside0.mk (hbox); have GW236 := Aside0.mk ((hz_ hg : w.heap.size ≤ gb236)); have GE236 := Aside0.mk ((hz_ hg : w.heap.size ≤ gb236)); replace HB := Aside0.mk (Ze hB_ hb); clear hb hbox hg)); try go_wp2_with (first | ((with_reducible refine ZD (N := 1) rfl ?_); refine ZH ?hg (N := 1) ?hd (cs := #[.int .i64 a0_0, .slice A0_1 l0_1.length c0_1]) (t := 27) ?hr ?_; (case hd => rfl); (case hg => rfl); (case hr => first | (go_simp; done) | (go_simp; rfl)); intro gb236 hg w2 hbox hb; have BK236 := Aside0.mk (hbox); have GW236 := Aside0.mk ((hz_ hg : w.heap.size ≤ gb236)); have GE236 := Aside0.mk ((hz_ hg : w.heap.size ≤ gb236)); replace HB := Aside0.mk (Ze hB_ hb); clear hb hbox hg)))
 go_loopg [3] k (fun kq v3 w' => ∃ (x3_1 : Int), v3 = .int .i64 x3_1 ∧ Aside0 (spec_IsGraph.l0 kq x3_1 a0_0 l0_1 = some r) ∧ Aside0 (kq ≤ k) ∧ Aside0 (w'.heap[gb236]? = some (.cells #[.int .i64 a0_0, (.slice A0_1 l0_1.length c0_1)] 27 (0, 0))) ∧ Aside0 (Below w.heap.size w w'))
 case atStart => exact ⟨(0), sm_, H', ⟨Nat.le_refl _⟩, ⟨bk_ BK236.out⟩, ⟨hB_⟩⟩
 case round =>
  clear H'
  try clear p2
  obtain ⟨x3_1, rfl, HA, HK1, BK236, HB⟩ := hrel
  cases gk with
  | zero => exact absurd HA.out (by simp [spec_IsGraph.l0])
  | succ k1 =>
   have H := HA.out
   clear HA
   simp only [spec_IsGraph.l0] at H
   by_cases c3 : x3_1 < (l0_1.length : Int)
   ·rw [if_pos c3] at H
    have c3b0 : decide (x3_1 < (l0_1.length : Int)) = true := decide_eq_true c3
    clear c3
    by_cases c4 : 0 ≤ x3_1
    ·rw [if_pos c4] at H
     have c4b0 : decide (0 ≤ x3_1) = true := decide_eq_true c4
     clear c4
     have HC5 := Aside0.mk H
     clear H
     have hcz6_0 : wr.cell? ⟨gb236, 0, none⟩ = some (.int .i64 a0_0) := (Za BK236.out 0).trans rfl
     have hcz6_1 : wr.cell? ⟨gb236, 1, none⟩ = some (.slice A0_1 l0_1.length c0_1) := (Za BK236.out 1).trans rfl
     have hfz6_0 := Zb BK236.out 0
     have hfz6_1 := Zb BK236.out 1
     have p238 : 0 ≤ (x3_1 : Int) := of_decide_eq_true as_
     have q238 : x3_1 < (l0_1.length : Int) := of_decide_eq_true as_
     obtain ⟨ad238, A238_0, c238_0, e238, hx238_0, hl238_0, hi238_0⟩ := at_L1 HR0_1.out x3_1 p238 q238
     cases e238
     replace hx238_0 := (HB.out.cell (World.block_lt_of_cell? w _ hx238_0)).trans hx238_0
     have HR238_0 := Aside0.mk hi238_0
     have HC238_0 := Aside0.mk hl238_0
     clear hi238_0 hl238_0
     replace p238 := eq_true p238
     replace q238 := eq_true q238
     go_upto_region 5 with (fail)
     repeat (go_quiet (fail); go_upto_region 5 with (fail))
     go_cut [40] (fun v40 wc => ∃ (kq : Nat) (x40_4 : Bool), v40 = .bool x40_4 ∧ Aside0 (spec_IsGraph.j1 kq x3_1 (rd_L1 l0_1 x3_1) x40_4 a0_0 l0_1 = some r) ∧ Aside0 (kq ≤ k1) ∧ Aside0 (wc.heap[gb236]? = some (.cells #[.int .i64 a0_0, (.slice (some ad238) l0_1.length c0_1)] 27 (0, 0))) ∧ Aside0 (Below w.heap.size w wc))
     case first =>
      have H := HC5.out
      clear HC5
      by_cases c7 : ((rd_L1 l0_1 x3_1).length : Int) = 2
      ·rw [if_pos c7] at H
       have c7b0 : (((rd_L1 l0_1 x3_1).length : Int) == 2) = true := beq_iff_eq.mpr c7
       have c7b1 : (((rd_L1 l0_1 x3_1).length : Int) != 2) = false := bne_eq_false_iff_eq.mpr c7
       clear c7
       (first | rw [c7b0] | (simp only [i64_w, i32_w]; rw [c7b0]) | skip)
       by_cases c8 : 0 < ((rd_L1 l0_1 x3_1).length : Int)
       ·rw [if_pos c8] at H
        have c8b0 : decide (0 < ((rd_L1 l0_1 x3_1).length : Int)) = true := decide_eq_true c8
        have c8b1 : decide (0 < (rd_L1 l0_1 x3_1).length) = true := decide_eq_true (by omega)
        clear c8
        replace H := Option.bind_eq_some_iff.mp H
        obtain ⟨t240, A90, H⟩ := H
        replace H : (if t240 = true then (if 1 < ((rd_L1 l0_1 x3_1).length : Int) then ((spec_l1In.f (rd (rd_L1 l0_1 x3_1) 1) 0 (wrap64 (a0_0 - 1))).bind fun t242 => (spec_IsGraph.j1 k1 x3_1 (rd_L1 l0_1 x3_1) (!t242) a0_0 l0_1)) else (none)) else (spec_IsGraph.j1 k1 x3_1 (rd_L1 l0_1 x3_1) true a0_0 l0_1)) = some r := H
        have A9 := Aside0.mk A90
        clear A90
        by_cases c10 : t240 = true
        ·subst c10
         have H1 : (if 1 < ((rd_L1 l0_1 x3_1).length : Int) then ((spec_l1In.f (rd (rd_L1 l0_1 x3_1) 1) 0 (wrap64 (a0_0 - 1))).bind fun t242 => (spec_IsGraph.j1 k1 x3_1 (rd_L1 l0_1 x3_1) (!t242) a0_0 l0_1)) else (none)) = some r := by rw [if_pos rfl] at H; exact H
         clear H
         have H := H1
         clear H1
         by_cases c11 : 1 < ((rd_L1 l0_1 x3_1).length : Int)
         ·rw [if_pos c11] at H
          have c11b0 : decide (1 < ((rd_L1 l0_1 x3_1).length : Int)) = true := decide_eq_true c11
          have c11b1 : decide (1 < (rd_L1 l0_1 x3_1).length) = true := decide_eq_true (by omega)
          clear c11
          replace H := Option.bind_eq_some_iff.mp H
          obtain ⟨t242, A120, H⟩ := H
          replace H : (spec_IsGraph.j1 k1 x3_1 (rd_L1 l0_1 x3_1) (!t242) a0_0 l0_1) = some r := H
          have A12 := Aside0.mk A120
          clear A120
          have H' := Aside0.mk H
          clear H
          have p239 : 0 ≤ (0 : Int) := (by omega)
          have q239 : 0 < ((rd_L1 l0_1 x3_1).length : Int) := of_decide_eq_true as_
          obtain ⟨ad239, e239, hx239_0⟩ := Zv HR238_0.out 0 p239 q239
          cases e239
          have qi239 : (0 < (rd_L1 l0_1 x3_1).length) = True := eq_true (by omega)
          (try rw [show ((0 : Int)).toNat = 0 from rfl] at hx239_0)
          (try rw [Addr.add_zero'] at hx239_0)
          replace hx239_0 := (HB.out.cell (World.block_lt_of_cell? w _ hx239_0)).trans hx239_0
          replace p239 := eq_true p239
          replace q239 := eq_true q239
          have hcz13_0 : wr.cell? ⟨gb236, 0, none⟩ = some (.int .i64 a0_0) := (Za BK236.out 0).trans rfl
          have hcz13_1 : wr.cell? ⟨gb236, 1, none⟩ = some (.slice (some ad238) l0_1.length c0_1) := (Za BK236.out 1).trans rfl
          have hfz13_0 := Zb BK236.out 0
          have hfz13_1 := Zb BK236.out 1
          go_wp2_with (first | (go_at_call 58; refine calls_of_args (args' := #[.int .i64 (rd (rd_L1 l0_1 x3_1) 0), .int .i64 0, .int .i64 (wrap64 (a0_0 - 1))]) ?harg ?_; (case harg => first | rfl | (simp only [i64_w, i32_w]; rfl) | (simp only [i64_w, i32_w]; done)); (with_reducible refine (spec_l1In.calls (rd (rd_L1 l0_1 x3_1) 0) 0 (wrap64 (a0_0 - 1)) true _ A9.out).mono ?_); rintro e w' ⟨rfl, ⟨nd, rfl⟩⟩; (try first | exact ⟨rfl, _, World.drewN_drewN _ _ _⟩ | exact ⟨rfl, _, Eq.trans (World.drewN_drewN _ _ _) (congrArg (World.drewN _) (Nat.add_assoc _ _ _))⟩); have p241 : 0 ≤ (1 : Int) := (by omega); have q241 : 1 < ((rd_L1 l0_1 x3_1).length : Int) := of_decide_eq_true as_; obtain ⟨ad241, e241, hx241_0⟩ := Zv HR238_0.out 1 p241 q241; obtain rfl : ad239 = ad241 := (by injection e241); (try simp only [show (1 : Int).toNat = 1 from rfl, Nat.reduceMul, Nat.reduceEqDiff, Go.Addr.add, ↓reduceIte] at hx241_0); have qi241 : (1 < (rd_L1 l0_1 x3_1).length) = True := eq_true (by omega); (try rw [show ((1 : Int)).toNat = 1 from rfl] at hx241_0); replace hx241_0 := (HB.out.cell (World.block_lt_of_cell? w _ hx241_0)).trans hx241_0; replace p241 := eq_true p241; replace q241 := eq_true q241) | (go_at_call 58; refine calls_of_args (args' := #[.int .i64 (rd (rd_L1 l0_1 x3_1) 1), .int .i64 0, .int .i64 (wrap64 (a0_0 - 1))]) ?harg ?_; (case harg => first | rfl | (simp only [i64_w, i32_w]; rfl) | (simp only [i64_w, i32_w]; done)); (with_reducible refine (spec_l1In.calls (rd (rd_L1 l0_1 x3_1) 1) 0 (wrap64 (a0_0 - 1)) t242 _ A12.out).mono ?_); rintro e w' ⟨rfl, ⟨nd, rfl⟩⟩; (try first | exact ⟨rfl, _, World.drewN_drewN _ _ _⟩ | exact ⟨rfl, _, Eq.trans (World.drewN_drewN _ _ _) (congrArg (World.drewN _) (Nat.add_assoc _ _ _))⟩)))
          repeat (go_quiet (first | (go_at_call 58; refine calls_of_args (args' := #[.int .i64 (rd (rd_L1 l0_1 x3_1) 0), .int .i64 0, .int .i64 (wrap64 (a0_0 - 1))]) ?harg ?_; (case harg => first | rfl | (simp only [i64_w, i32_w]; rfl) | (simp only [i64_w, i32_w]; done)); (with_reducible refine (spec_l1In.calls (rd (rd_L1 l0_1 x3_1) 0) 0 (wrap64 (a0_0 - 1)) true _ A9.out).mono ?_); rintro e w' ⟨rfl, ⟨nd, rfl⟩⟩; (try first | exact ⟨rfl, _, World.drewN_drewN _ _ _⟩ | exact ⟨rfl, _, Eq.trans (World.drewN_drewN _ _ _) (congrArg (World.drewN _) (Nat.add_assoc _ _ _))⟩); have p241 : 0 ≤ (1 : Int) := (by omega); have q241 : 1 < ((rd_L1 l0_1 x3_1).length : Int) := of_decide_eq_true as_; obtain ⟨ad241, e241, hx241_0⟩ := Zv HR238_0.out 1 p241 q241; obtain rfl : ad239 = ad241 := (by injection e241); (try simp only [show (1 : Int).toNat = 1 from rfl, Nat.reduceMul, Nat.reduceEqDiff, Go.Addr.add, ↓reduceIte] at hx241_0); have qi241 : (1 < (rd_L1 l0_1 x3_1).length) = True := eq_true (by omega); (try rw [show ((1 : Int)).toNat = 1 from rfl] at hx241_0); replace hx241_0 := (HB.out.cell (World.block_lt_of_cell? w _ hx241_0)).trans hx241_0; replace p241 := eq_true p241; replace q241 := eq_true q241) | (go_at_call 58; refine calls_of_args (args' := #[.int .i64 (rd (rd_L1 l0_1 x3_1) 1), .int .i64 0, .int .i64 (wrap64 (a0_0 - 1))]) ?harg ?_; (case harg => first | rfl | (simp only [i64_w, i32_w]; rfl) | (simp only [i64_w, i32_w]; done)); (with_reducible refine (spec_l1In.calls (rd (rd_L1 l0_1 x3_1) 1) 0 (wrap64 (a0_0 - 1)) t242 _ A12.out).mono ?_); rintro e w' ⟨rfl, ⟨nd, rfl⟩⟩; (try first | exact ⟨rfl, _, World.drewN_drewN _ _ _⟩ | exact ⟨rfl, _, Eq.trans (World.drewN_drewN _ _ _) (congrArg (World.drewN _) (Nat.add_assoc _ _ _))⟩))); try go_wp2_with (first | (go_at_call 58; refine calls_of_args (args' := #[.int .i64 (rd (rd_L1 l0_1 x3_1) 0), .int .i64 0, .int .i64 (wrap64 (a0_0 - 1))]) ?harg ?_; (case harg => first | rfl | (simp only [i64_w, i32_w]; rfl) | (simp only [i64_w, i32_w]; done)); (with_reducible refine (spec_l1In.calls (rd (rd_L1 l0_1 x3_1) 0) 0 (wrap64 (a0_0 - 1)) true _ A9.out).mono ?_); rintro e w' ⟨rfl, ⟨nd, rfl⟩⟩; (try first | exact ⟨rfl, _, World.drewN_drewN _ _ _⟩ | exact ⟨rfl, _, Eq.trans (World.drewN_drewN _ _ _) (congrArg (World.drewN _) (Nat.add_assoc _ _ _))⟩); have p241 : 0 ≤ (1 : Int) := (by omega); have q241 : 1 < ((rd_L1 l0_1 x3_1).length : Int) := of_decide_eq_true as_; obtain ⟨ad241, e241, hx241_0⟩ := Zv HR238_0.out 1 p241 q241; obtain rfl : ad239 = ad241 := (by injection e241); (try simp only [show (1 : Int).toNat = 1 from rfl, Nat.reduceMul, Nat.reduceEqDiff, Go.Addr.add, ↓reduceIte] at hx241_0); have qi241 : (1 < (rd_L1 l0_1 x3_1).length) = True := eq_true (by omega); (try rw [show ((1 : Int)).toNat = 1 from rfl] at hx241_0); replace hx241_0 := (HB.out.cell (World.block_lt_of_cell? w _ hx241_0)).trans hx241_0; replace p241 := eq_true p241; replace q241 := eq_true q241) | (go_at_call 58; refine calls_of_args (args' := #[.int .i64 (rd (rd_L1 l0_1 x3_1) 1), .int .i64 0, .int .i64 (wrap64 (a0_0 - 1))]) ?harg ?_; (case harg => first | rfl | (simp only [i64_w, i32_w]; rfl) | (simp only [i64_w, i32_w]; done)); (with_reducible refine (spec_l1In.calls (rd (rd_L1 l0_1 x3_1) 1) 0 (wrap64 (a0_0 - 1)) t242 _ A12.out).mono ?_); rintro e w' ⟨rfl, ⟨nd, rfl⟩⟩; (try first | exact ⟨rfl, _, World.drewN_drewN _ _ _⟩ | exact ⟨rfl, _, Eq.trans (World.drewN_drewN _ _ _) (congrArg (World.drewN _) (Nat.add_assoc _ _ _))⟩))))
          go_meet
          case rel => exact ⟨_, (!t242), sm_, H', ⟨by have := HK1.out; first | omega | exact Nat.le_refl _⟩, ⟨bk_ BK236.out⟩, ⟨hB_⟩⟩
         ·rw [if_neg c11] at H
          exact absurd H (by simp)
        ·replace c10 := Bool.eq_false_iff.mpr c10
         subst c10
         have H1 : (spec_IsGraph.j1 k1 x3_1 (rd_L1 l0_1 x3_1) true a0_0 l0_1) = some r := by rw [if_neg (show ¬ (false = true) by decide)] at H; exact H
         clear H
         have H := H1
         clear H1
         have H' := Aside0.mk H
         clear H
         have p239 : 0 ≤ (0 : Int) := (by omega)
         have q239 : 0 < ((rd_L1 l0_1 x3_1).length : Int) := of_decide_eq_true as_
         obtain ⟨ad239, e239, hx239_0⟩ := Zv HR238_0.out 0 p239 q239
         cases e239
         have qi239 : (0 < (rd_L1 l0_1 x3_1).length) = True := eq_true (by omega)
         (try rw [show ((0 : Int)).toNat = 0 from rfl] at hx239_0)
         (try rw [Addr.add_zero'] at hx239_0)
         replace hx239_0 := (HB.out.cell (World.block_lt_of_cell? w _ hx239_0)).trans hx239_0
         replace p239 := eq_true p239
         replace q239 := eq_true q239
         have hcz14_0 : wr.cell? ⟨gb236, 0, none⟩ = some (.int .i64 a0_0) := (Za BK236.out 0).trans rfl
         have hcz14_1 : wr.cell? ⟨gb236, 1, none⟩ = some (.slice (some ad238) l0_1.length c0_1) := (Za BK236.out 1).trans rfl
         have hfz14_0 := Zb BK236.out 0
         have hfz14_1 := Zb BK236.out 1
         go_wp2_with (first | (go_at_call 58; refine calls_of_args (args' := #[.int .i64 (rd (rd_L1 l0_1 x3_1) 0), .int .i64 0, .int .i64 (wrap64 (a0_0 - 1))]) ?harg ?_; (case harg => first | rfl | (simp only [i64_w, i32_w]; rfl) | (simp only [i64_w, i32_w]; done)); (with_reducible refine (spec_l1In.calls (rd (rd_L1 l0_1 x3_1) 0) 0 (wrap64 (a0_0 - 1)) false _ A9.out).mono ?_); rintro e w' ⟨rfl, ⟨nd, rfl⟩⟩; (try first | exact ⟨rfl, _, World.drewN_drewN _ _ _⟩ | exact ⟨rfl, _, Eq.trans (World.drewN_drewN _ _ _) (congrArg (World.drewN _) (Nat.add_assoc _ _ _))⟩)))
         repeat (go_quiet (first | (go_at_call 58; refine calls_of_args (args' := #[.int .i64 (rd (rd_L1 l0_1 x3_1) 0), .int .i64 0, .int .i64 (wrap64 (a0_0 - 1))]) ?harg ?_; (case harg => first | rfl | (simp only [i64_w, i32_w]; rfl) | (simp only [i64_w, i32_w]; done)); (with_reducible refine (spec_l1In.calls (rd (rd_L1 l0_1 x3_1) 0) 0 (wrap64 (a0_0 - 1)) false _ A9.out).mono ?_); rintro e w' ⟨rfl, ⟨nd, rfl⟩⟩; (try first | exact ⟨rfl, _, World.drewN_drewN _ _ _⟩ | exact ⟨rfl, _, Eq.trans (World.drewN_drewN _ _ _) (congrArg (World.drewN _) (Nat.add_assoc _ _ _))⟩))); try go_wp2_with (first | (go_at_call 58; refine calls_of_args (args' := #[.int .i64 (rd (rd_L1 l0_1 x3_1) 0), .int .i64 0, .int .i64 (wrap64 (a0_0 - 1))]) ?harg ?_; (case harg => first | rfl | (simp only [i64_w, i32_w]; rfl) | (simp only [i64_w, i32_w]; done)); (with_reducible refine (spec_l1In.calls (rd (rd_L1 l0_1 x3_1) 0) 0 (wrap64 (a0_0 - 1)) false _ A9.out).mono ?_); rintro e w' ⟨rfl, ⟨nd, rfl⟩⟩; (try first | exact ⟨rfl, _, World.drewN_drewN _ _ _⟩ | exact ⟨rfl, _, Eq.trans (World.drewN_drewN _ _ _) (congrArg (World.drewN _) (Nat.add_assoc _ _ _))⟩))))
         go_meet
         case rel => exact ⟨_, (true), sm_, H', ⟨by have := HK1.out; first | omega | exact Nat.le_refl _⟩, ⟨bk_ BK236.out⟩, ⟨hB_⟩⟩
       ·rw [if_neg c8] at H
        exact absurd H (by simp)
      ·rw [if_neg c7] at H
       have c7b0 : (((rd_L1 l0_1 x3_1).length : Int) == 2) = false := beq_eq_false_iff_ne.mpr c7
       have c7b1 : (((rd_L1 l0_1 x3_1).length : Int) != 2) = true := bne_iff_ne.mpr c7
       (first | rw [c7b0] | (simp only [i64_w, i32_w]; rw [c7b0]) | skip)
       have H' := Aside0.mk H
       clear H
       go_wp2
       repeat (go_quiet (fail); try go_wp2)
       go_meet
       case rel => exact ⟨_, (true), sm_, H', ⟨by have := HK1.out; first | omega | exact Nat.le_refl _⟩, ⟨bk_ BK236.out⟩, ⟨hB_⟩⟩
     case rest =>
      clear HC5
      try clear c1
      try clear c2
      try clear p2
      try clear q2
      try clear hx2
      try clear qi2
      try clear c3
      try clear c3b0
      try clear c4
      try clear c4b0
      try clear c5
      try clear p6
      try clear c7
      try clear c7b0
      try clear c7b1
      try clear c8
      try clear c8b0
      try clear c8b1
      try clear c10
      try clear c11
      try clear c11b0
      try clear c11b1
      try clear hcz13_0
      try clear hcz13_1
      try clear hcz14_0
      try clear hcz14_1
      try clear hcz6_0
      try clear hcz6_1
      try clear hfz13_0
      try clear hfz13_1
      try clear hfz14_0
      try clear hfz14_1
      try clear hfz6_0
      try clear hfz6_1
      try clear hx238_0
      try clear hx239_0
      try clear hx241_0
      try clear p2
      try clear p238
      try clear p239
      try clear p241
      try clear q238
      try clear q239
      try clear q241
      obtain ⟨kq, x40_4, rfl, HA, HJ4, BK236, HB⟩ := hcut
      cases kq with
      | zero => exact absurd HA.out (by simp [spec_IsGraph.j1])
      | succ kj4 =>
       have H := HA.out
       clear HA
       simp only [spec_IsGraph.j1] at H
       by_cases c15 : x40_4 = true
       ·subst c15
        have H1 : (some false) = some r := by rw [if_pos rfl] at H; exact H
        clear H
        have H := H1
        clear H1
        obtain rfl := Option.some.inj H
        go_wp2
        repeat (go_quiet (fail); try go_wp2)
        go_ret
        exact ⟨er_, hB_⟩
       ·replace c15 := Bool.eq_false_iff.mpr c15
        subst c15
        have H1 : (if x3_1 > 0 then (if 0 ≤ (wrap64 (x3_1 - 1)) then (if (wrap64 (x3_1 - 1)) < (l0_1.length : Int) then (if 0 < ((rd_L1 l0_1 (wrap64 (x3_1 - 1))).length : Int) then (if 0 < ((rd_L1 l0_1 x3_1).length : Int) then (if (rd (rd_L1 l0_1 (wrap64 (x3_1 - 1))) 0) > (rd (rd_L1 l0_1 x3_1) 0) then (some false) else (if (rd (rd_L1 l0_1 (wrap64 (x3_1 - 1))) 0) = (rd (rd_L1 l0_1 x3_1) 0) then (if 1 < ((rd_L1 l0_1 (wrap64 (x3_1 - 1))).length : Int) then (if 1 < ((rd_L1 l0_1 x3_1).length : Int) then (if (rd (rd_L1 l0_1 (wrap64 (x3_1 - 1))) 1) ≥ (rd (rd_L1 l0_1 x3_1) 1) then (some false) else (spec_IsGraph.l0 kj4 (wrap64 (x3_1 + 1)) a0_0 l0_1)) else (none)) else (none)) else (spec_IsGraph.l0 kj4 (wrap64 (x3_1 + 1)) a0_0 l0_1))) else (none)) else (none)) else (none)) else (none)) else (spec_IsGraph.l0 kj4 (wrap64 (x3_1 + 1)) a0_0 l0_1)) = some r := by rw [if_neg (show ¬ (false = true) by decide)] at H; exact H
        clear H
        have H := H1
        clear H1
        by_cases c16 : x3_1 > 0
        ·rw [if_pos c16] at H
         have c16b0 : decide (0 < x3_1) = true := decide_eq_true c16
         clear c16
         obtain ⟨ji17, hji17⟩ : ∃ j_ : Int, (wrap64 (x3_1 - 1)) = j_ := ⟨_, rfl⟩
         replace H : (if 0 ≤ (ji17) then (if (ji17) < (l0_1.length : Int) then (if 0 < ((rd_L1 l0_1 (ji17)).length : Int) then (if 0 < ((rd_L1 l0_1 x3_1).length : Int) then (if (rd (rd_L1 l0_1 (ji17)) 0) > (rd (rd_L1 l0_1 x3_1) 0) then (some false) else (if (rd (rd_L1 l0_1 (ji17)) 0) = (rd (rd_L1 l0_1 x3_1) 0) then (if 1 < ((rd_L1 l0_1 (ji17)).length : Int) then (if 1 < ((rd_L1 l0_1 x3_1).length : Int) then (if (rd (rd_L1 l0_1 (ji17)) 1) ≥ (rd (rd_L1 l0_1 x3_1) 1) then (some false) else (spec_IsGraph.l0 kj4 (wrap64 (x3_1 + 1)) a0_0 l0_1)) else (none)) else (none)) else (spec_IsGraph.l0 kj4 (wrap64 (x3_1 + 1)) a0_0 l0_1))) else (none)) else (none)) else (none)) else (none)) = some r := by first | (rw [hji17] at H; exact H) | (simp only [hji17] at H ⊢; exact H)
         have hji17w : (IntKind.i64.wrap (x3_1 - 1)) = ji17 := (i64_w _).trans hji17
         by_cases c18 : 0 ≤ (ji17)
         ·rw [if_pos c18] at H
          have c18b0 : decide (0 ≤ (ji17)) = true := decide_eq_true c18
          clear c18
          by_cases c19 : (ji17) < (l0_1.length : Int)
          ·rw [if_pos c19] at H
           have c19b0 : decide ((ji17) < (l0_1.length : Int)) = true := decide_eq_true c19
           clear c19
           by_cases c20 : 0 < ((rd_L1 l0_1 (ji17)).length : Int)
           ·rw [if_pos c20] at H
            have c20b0 : decide (0 < ((rd_L1 l0_1 (ji17)).length : Int)) = true := decide_eq_true c20
            have c20b1 : decide (0 < (rd_L1 l0_1 (ji17)).length) = true := decide_eq_true (by omega)
            clear c20
            by_cases c21 : 0 < ((rd_L1 l0_1 x3_1).length : Int)
            ·rw [if_pos c21] at H
             have c21b0 : decide (0 < ((rd_L1 l0_1 x3_1).length : Int)) = true := decide_eq_true c21
             have c21b1 : decide (0 < (rd_L1 l0_1 x3_1).length) = true := decide_eq_true (by omega)
             clear c21
             by_cases c22 : (rd (rd_L1 l0_1 (ji17)) 0) > (rd (rd_L1 l0_1 x3_1) 0)
             ·rw [if_pos c22] at H
              have c22b0 : decide ((rd (rd_L1 l0_1 x3_1) 0) < (rd (rd_L1 l0_1 (ji17)) 0)) = true := decide_eq_true c22
              clear c22
              obtain rfl := Option.some.inj H
              have hcz23_0 : wc.cell? ⟨gb236, 0, none⟩ = some (.int .i64 a0_0) := (Za BK236.out 0).trans rfl
              have hcz23_1 : wc.cell? ⟨gb236, 1, none⟩ = some (.slice (some ad238) l0_1.length c0_1) := (Za BK236.out 1).trans rfl
              have hfz23_0 := Zb BK236.out 0
              have hfz23_1 := Zb BK236.out 1
              have p243 : 0 ≤ ((ji17) : Int) := of_decide_eq_true as_
              have q243 : (ji17) < (l0_1.length : Int) := of_decide_eq_true as_
              obtain ⟨ad243, A243_0, c243_0, e243, hx243_0, hl243_0, hi243_0⟩ := at_L1 HR0_1.out (ji17) p243 q243
              obtain rfl : ad238 = ad243 := (by injection e243)
              replace hx243_0 := (HB.out.cell (World.block_lt_of_cell? w _ hx243_0)).trans hx243_0
              have HR243_0 := Aside0.mk hi243_0
              have HC243_0 := Aside0.mk hl243_0
              clear hi243_0 hl243_0
              replace p243 := eq_true p243
              replace q243 := eq_true q243
              have p244 : 0 ≤ (0 : Int) := (by omega)
              have q244 : 0 < ((rd_L1 l0_1 (ji17)).length : Int) := of_decide_eq_true as_
              obtain ⟨ad244, e244, hx244_0⟩ := Zv HR243_0.out 0 p244 q244
              cases e244
              have qi244 : (0 < (rd_L1 l0_1 (ji17)).length) = True := eq_true (by omega)
              (try rw [show ((0 : Int)).toNat = 0 from rfl] at hx244_0)
              (try rw [Addr.add_zero'] at hx244_0)
              replace hx244_0 := (HB.out.cell (World.block_lt_of_cell? w _ hx244_0)).trans hx244_0
              replace p244 := eq_true p244
              replace q244 := eq_true q244
              have p245 : 0 ≤ (0 : Int) := (by omega)
              have q245 : 0 < ((rd_L1 l0_1 x3_1).length : Int) := of_decide_eq_true as_
              obtain ⟨ad245, e245, hx245_0⟩ := Zv HR238_0.out 0 p245 q245
              cases e245
              have qi245 : (0 < (rd_L1 l0_1 x3_1).length) = True := eq_true (by omega)
              (try rw [show ((0 : Int)).toNat = 0 from rfl] at hx245_0)
              (try rw [Addr.add_zero'] at hx245_0)
              replace hx245_0 := (HB.out.cell (World.block_lt_of_cell? w _ hx245_0)).trans hx245_0
              replace p245 := eq_true p245
              replace q245 := eq_true q245
              go_wp2
              repeat (go_quiet (fail); try go_wp2)
              go_ret
              exact ⟨by first | rfl | (simp [errW_none, errW_some] <;> rfl) | (simp only [← hji17]; first | rfl | (simp [errW_none, errW_some] <;> rfl)) | (simp [*, errW_none, errW_some] <;> rfl), hB_⟩
             ·rw [if_neg c22] at H
              have c22b0 : decide ((rd (rd_L1 l0_1 x3_1) 0) < (rd (rd_L1 l0_1 (ji17)) 0)) = false := decide_eq_false c22
              clear c22
              by_cases c24 : (rd (rd_L1 l0_1 (ji17)) 0) = (rd (rd_L1 l0_1 x3_1) 0)
              ·rw [if_pos c24] at H
               have c24b0 : ((rd (rd_L1 l0_1 (ji17)) 0) == (rd (rd_L1 l0_1 x3_1) 0)) = true := beq_iff_eq.mpr c24
               have c24b1 : ((rd (rd_L1 l0_1 (ji17)) 0) != (rd (rd_L1 l0_1 x3_1) 0)) = false := bne_eq_false_iff_eq.mpr c24
               clear c24
               by_cases c25 : 1 < ((rd_L1 l0_1 (ji17)).length : Int)
               ·rw [if_pos c25] at H
                have c25b0 : decide (1 < ((rd_L1 l0_1 (ji17)).length : Int)) = true := decide_eq_true c25
                have c25b1 : decide (1 < (rd_L1 l0_1 (ji17)).length) = true := decide_eq_true (by omega)
                clear c25
                by_cases c26 : 1 < ((rd_L1 l0_1 x3_1).length : Int)
                ·rw [if_pos c26] at H
                 have c26b0 : decide (1 < ((rd_L1 l0_1 x3_1).length : Int)) = true := decide_eq_true c26
                 have c26b1 : decide (1 < (rd_L1 l0_1 x3_1).length) = true := decide_eq_true (by omega)
                 clear c26
                 by_cases c27 : (rd (rd_L1 l0_1 (ji17)) 1) ≥ (rd (rd_L1 l0_1 x3_1) 1)
                 ·rw [if_pos c27] at H
                  have c27b0 : decide ((rd (rd_L1 l0_1 x3_1) 1) ≤ (rd (rd_L1 l0_1 (ji17)) 1)) = true := decide_eq_true c27
                  clear c27
                  obtain rfl := Option.some.inj H
                  have hcz28_0 : wc.cell? ⟨gb236, 0, none⟩ = some (.int .i64 a0_0) := (Za BK236.out 0).trans rfl
                  have hcz28_1 : wc.cell? ⟨gb236, 1, none⟩ = some (.slice (some ad238) l0_1.length c0_1) := (Za BK236.out 1).trans rfl
                  have hfz28_0 := Zb BK236.out 0
                  have hfz28_1 := Zb BK236.out 1
                  have p243 : 0 ≤ ((ji17) : Int) := of_decide_eq_true as_
                  have q243 : (ji17) < (l0_1.length : Int) := of_decide_eq_true as_
                  obtain ⟨ad243, A243_0, c243_0, e243, hx243_0, hl243_0, hi243_0⟩ := at_L1 HR0_1.out (ji17) p243 q243
                  obtain rfl : ad238 = ad243 := (by injection e243)
                  replace hx243_0 := (HB.out.cell (World.block_lt_of_cell? w _ hx243_0)).trans hx243_0
                  have HR243_0 := Aside0.mk hi243_0
                  have HC243_0 := Aside0.mk hl243_0
                  clear hi243_0 hl243_0
                  replace p243 := eq_true p243
                  replace q243 := eq_true q243
                  have p244 : 0 ≤ (0 : Int) := (by omega)
                  have q244 : 0 < ((rd_L1 l0_1 (ji17)).length : Int) := of_decide_eq_true as_
                  obtain ⟨ad244, e244, hx244_0⟩ := Zv HR243_0.out 0 p244 q244
                  cases e244
                  have qi244 : (0 < (rd_L1 l0_1 (ji17)).length) = True := eq_true (by omega)
                  (try rw [show ((0 : Int)).toNat = 0 from rfl] at hx244_0)
                  (try rw [Addr.add_zero'] at hx244_0)
                  replace hx244_0 := (HB.out.cell (World.block_lt_of_cell? w _ hx244_0)).trans hx244_0
                  replace p244 := eq_true p244
                  replace q244 := eq_true q244
                  have p245 : 0 ≤ (0 : Int) := (by omega)
                  have q245 : 0 < ((rd_L1 l0_1 x3_1).length : Int) := of_decide_eq_true as_
                  obtain ⟨ad245, e245, hx245_0⟩ := Zv HR238_0.out 0 p245 q245
                  cases e245
                  have qi245 : (0 < (rd_L1 l0_1 x3_1).length) = True := eq_true (by omega)
                  (try rw [show ((0 : Int)).toNat = 0 from rfl] at hx245_0)
                  (try rw [Addr.add_zero'] at hx245_0)
                  replace hx245_0 := (HB.out.cell (World.block_lt_of_cell? w _ hx245_0)).trans hx245_0
                  replace p245 := eq_true p245
                  replace q245 := eq_true q245
                  have p246 : 0 ≤ (0 : Int) := (by omega)
                  have q246 : 0 < ((rd_L1 l0_1 (ji17)).length : Int) := of_decide_eq_true as_
                  obtain ⟨ad246, e246, hx246_0⟩ := Zv HR243_0.out 0 p246 q246
                  obtain rfl : ad244 = ad246 := (by injection e246)
                  have qi246 : (0 < (rd_L1 l0_1 (ji17)).length) = True := eq_true (by omega)
                  (try rw [show ((0 : Int)).toNat = 0 from rfl] at hx246_0)
                  (try rw [Addr.add_zero'] at hx246_0)
                  replace hx246_0 := (HB.out.cell (World.block_lt_of_cell? w _ hx246_0)).trans hx246_0
                  replace p246 := eq_true p246
                  replace q246 := eq_true q246
                  have p247 : 0 ≤ (0 : Int) := (by omega)
                  have q247 : 0 < ((rd_L1 l0_1 x3_1).length : Int) := of_decide_eq_true as_
                  obtain ⟨ad247, e247, hx247_0⟩ := Zv HR238_0.out 0 p247 q247
                  obtain rfl : ad245 = ad247 := (by injection e247)
                  have qi247 : (0 < (rd_L1 l0_1 x3_1).length) = True := eq_true (by omega)
                  (try rw [show ((0 : Int)).toNat = 0 from rfl] at hx247_0)
                  (try rw [Addr.add_zero'] at hx247_0)
                  replace hx247_0 := (HB.out.cell (World.block_lt_of_cell? w _ hx247_0)).trans hx247_0
                  replace p247 := eq_true p247
                  replace q247 := eq_true q247
                  have p248 : 0 ≤ (1 : Int) := (by omega)
                  have q248 : 1 < ((rd_L1 l0_1 (ji17)).length : Int) := of_decide_eq_true as_
                  obtain ⟨ad248, e248, hx248_0⟩ := Zv HR243_0.out 1 p248 q248
                  obtain rfl : ad244 = ad248 := (by injection e248)
                  (try simp only [show (1 : Int).toNat = 1 from rfl, Nat.reduceMul, Nat.reduceEqDiff, Go.Addr.add, ↓reduceIte] at hx248_0)
                  have qi248 : (1 < (rd_L1 l0_1 (ji17)).length) = True := eq_true (by omega)
                  (try rw [show ((1 : Int)).toNat = 1 from rfl] at hx248_0)
                  replace hx248_0 := (HB.out.cell (World.block_lt_of_cell? w _ hx248_0)).trans hx248_0
                  replace p248 := eq_true p248
                  replace q248 := eq_true q248
                  have p249 : 0 ≤ (1 : Int) := (by omega)
                  have q249 : 1 < ((rd_L1 l0_1 x3_1).length : Int) := of_decide_eq_true as_
                  obtain ⟨ad249, e249, hx249_0⟩ := Zv HR238_0.out 1 p249 q249
                  obtain rfl : ad245 = ad249 := (by injection e249)
                  (try simp only [show (1 : Int).toNat = 1 from rfl, Nat.reduceMul, Nat.reduceEqDiff, Go.Addr.add, ↓reduceIte] at hx249_0)
                  have qi249 : (1 < (rd_L1 l0_1 x3_1).length) = True := eq_true (by omega)
                  (try rw [show ((1 : Int)).toNat = 1 from rfl] at hx249_0)
                  replace hx249_0 := (HB.out.cell (World.block_lt_of_cell? w _ hx249_0)).trans hx249_0
                  replace p249 := eq_true p249
                  replace q249 := eq_true q249
                  go_wp2
                  repeat (go_quiet (fail); try go_wp2)
                  go_ret
                  exact ⟨by first | rfl | (simp [errW_none, errW_some] <;> rfl) | (simp only [← hji17]; first | rfl | (simp [errW_none, errW_some] <;> rfl)) | (simp [*, errW_none, errW_some] <;> rfl), hB_⟩
                 ·rw [if_neg c27] at H
                  have c27b0 : decide ((rd (rd_L1 l0_1 x3_1) 1) ≤ (rd (rd_L1 l0_1 (ji17)) 1)) = false := decide_eq_false c27
                  clear c27
                  have H' := Aside0.mk H
                  clear H
                  have hcz29_0 : wc.cell? ⟨gb236, 0, none⟩ = some (.int .i64 a0_0) := (Za BK236.out 0).trans rfl
                  have hcz29_1 : wc.cell? ⟨gb236, 1, none⟩ = some (.slice (some ad238) l0_1.length c0_1) := (Za BK236.out 1).trans rfl
                  have hfz29_0 := Zb BK236.out 0
                  have hfz29_1 := Zb BK236.out 1
                  have p243 : 0 ≤ ((ji17) : Int) := of_decide_eq_true as_
                  have q243 : (ji17) < (l0_1.length : Int) := of_decide_eq_true as_
                  obtain ⟨ad243, A243_0, c243_0, e243, hx243_0, hl243_0, hi243_0⟩ := at_L1 HR0_1.out (ji17) p243 q243
                  obtain rfl : ad238 = ad243 := (by injection e243)
                  replace hx243_0 := (HB.out.cell (World.block_lt_of_cell? w _ hx243_0)).trans hx243_0
                  have HR243_0 := Aside0.mk hi243_0
                  have HC243_0 := Aside0.mk hl243_0
                  clear hi243_0 hl243_0
                  replace p243 := eq_true p243
                  replace q243 := eq_true q243
                  have p244 : 0 ≤ (0 : Int) := (by omega)
                  have q244 : 0 < ((rd_L1 l0_1 (ji17)).length : Int) := of_decide_eq_true as_
                  obtain ⟨ad244, e244, hx244_0⟩ := Zv HR243_0.out 0 p244 q244
                  cases e244
                  have qi244 : (0 < (rd_L1 l0_1 (ji17)).length) = True := eq_true (by omega)
                  (try rw [show ((0 : Int)).toNat = 0 from rfl] at hx244_0)
                  (try rw [Addr.add_zero'] at hx244_0)
                  replace hx244_0 := (HB.out.cell (World.block_lt_of_cell? w _ hx244_0)).trans hx244_0
                  replace p244 := eq_true p244
                  replace q244 := eq_true q244
                  have p245 : 0 ≤ (0 : Int) := (by omega)
                  have q245 : 0 < ((rd_L1 l0_1 x3_1).length : Int) := of_decide_eq_true as_
                  obtain ⟨ad245, e245, hx245_0⟩ := Zv HR238_0.out 0 p245 q245
                  cases e245
                  have qi245 : (0 < (rd_L1 l0_1 x3_1).length) = True := eq_true (by omega)
                  (try rw [show ((0 : Int)).toNat = 0 from rfl] at hx245_0)
                  (try rw [Addr.add_zero'] at hx245_0)
                  replace hx245_0 := (HB.out.cell (World.block_lt_of_cell? w _ hx245_0)).trans hx245_0
                  replace p245 := eq_true p245
                  replace q245 := eq_true q245
                  have p246 : 0 ≤ (0 : Int) := (by omega)
                  have q246 : 0 < ((rd_L1 l0_1 (ji17)).length : Int) := of_decide_eq_true as_
                  obtain ⟨ad246, e246, hx246_0⟩ := Zv HR243_0.out 0 p246 q246
                  obtain rfl : ad244 = ad246 := (by injection e246)
                  have qi246 : (0 < (rd_L1 l0_1 (ji17)).length) = True := eq_true (by omega)
                  (try rw [show ((0 : Int)).toNat = 0 from rfl] at hx246_0)
                  (try rw [Addr.add_zero'] at hx246_0)
                  replace hx246_0 := (HB.out.cell (World.block_lt_of_cell? w _ hx246_0)).trans hx246_0
                  replace p246 := eq_true p246
                  replace q246 := eq_true q246
                  have p247 : 0 ≤ (0 : Int) := (by omega)
                  have q247 : 0 < ((rd_L1 l0_1 x3_1).length : Int) := of_decide_eq_true as_
                  obtain ⟨ad247, e247, hx247_0⟩ := Zv HR238_0.out 0 p247 q247
                  obtain rfl : ad245 = ad247 := (by injection e247)
                  have qi247 : (0 < (rd_L1 l0_1 x3_1).length) = True := eq_true (by omega)
                  (try rw [show ((0 : Int)).toNat = 0 from rfl] at hx247_0)
                  (try rw [Addr.add_zero'] at hx247_0)
                  replace hx247_0 := (HB.out.cell (World.block_lt_of_cell? w _ hx247_0)).trans hx247_0
                  replace p247 := eq_true p247
                  replace q247 := eq_true q247
                  have p248 : 0 ≤ (1 : Int) := (by omega)
                  have q248 : 1 < ((rd_L1 l0_1 (ji17)).length : Int) := of_decide_eq_true as_
                  obtain ⟨ad248, e248, hx248_0⟩ := Zv HR243_0.out 1 p248 q248
                  obtain rfl : ad244 = ad248 := (by injection e248)
                  (try simp only [show (1 : Int).toNat = 1 from rfl, Nat.reduceMul, Nat.reduceEqDiff, Go.Addr.add, ↓reduceIte] at hx248_0)
                  have qi248 : (1 < (rd_L1 l0_1 (ji17)).length) = True := eq_true (by omega)
                  (try rw [show ((1 : Int)).toNat = 1 from rfl] at hx248_0)
                  replace hx248_0 := (HB.out.cell (World.block_lt_of_cell? w _ hx248_0)).trans hx248_0
                  replace p248 := eq_true p248
                  replace q248 := eq_true q248
                  have p249 : 0 ≤ (1 : Int) := (by omega)
                  have q249 : 1 < ((rd_L1 l0_1 x3_1).length : Int) := of_decide_eq_true as_
                  obtain ⟨ad249, e249, hx249_0⟩ := Zv HR238_0.out 1 p249 q249
                  obtain rfl : ad245 = ad249 := (by injection e249)
                  (try simp only [show (1 : Int).toNat = 1 from rfl, Nat.reduceMul, Nat.reduceEqDiff, Go.Addr.add, ↓reduceIte] at hx249_0)
                  have qi249 : (1 < (rd_L1 l0_1 x3_1).length) = True := eq_true (by omega)
                  (try rw [show ((1 : Int)).toNat = 1 from rfl] at hx249_0)
                  replace hx249_0 := (HB.out.cell (World.block_lt_of_cell? w _ hx249_0)).trans hx249_0
                  replace p249 := eq_true p249
                  replace q249 := eq_true q249
                  go_wp2
                  repeat (go_quiet (fail); try go_wp2)
                  go_roundg kj4
                  case measure => have := HK1.out; have := HJ4.out; omega
                  case rel => exact ⟨(wrap64 (x3_1 + 1)), sm_, H', ⟨by have := HK1.out; have := HJ4.out; omega⟩, ⟨bk_ BK236.out⟩, ⟨hB_⟩⟩
                ·rw [if_neg c26] at H
                 exact absurd H (by simp)
               ·rw [if_neg c25] at H
                exact absurd H (by simp)
              ·rw [if_neg c24] at H
               have c24b0 : ((rd (rd_L1 l0_1 (ji17)) 0) == (rd (rd_L1 l0_1 x3_1) 0)) = false := beq_eq_false_iff_ne.mpr c24
               have c24b1 : ((rd (rd_L1 l0_1 (ji17)) 0) != (rd (rd_L1 l0_1 x3_1) 0)) = true := bne_iff_ne.mpr c24
               have H' := Aside0.mk H
               clear H
               have hcz30_0 : wc.cell? ⟨gb236, 0, none⟩ = some (.int .i64 a0_0) := (Za BK236.out 0).trans rfl
               have hcz30_1 : wc.cell? ⟨gb236, 1, none⟩ = some (.slice (some ad238) l0_1.length c0_1) := (Za BK236.out 1).trans rfl
               have hfz30_0 := Zb BK236.out 0
               have hfz30_1 := Zb BK236.out 1
               have p243 : 0 ≤ ((ji17) : Int) := of_decide_eq_true as_
               have q243 : (ji17) < (l0_1.length : Int) := of_decide_eq_true as_
               obtain ⟨ad243, A243_0, c243_0, e243, hx243_0, hl243_0, hi243_0⟩ := at_L1 HR0_1.out (ji17) p243 q243
               obtain rfl : ad238 = ad243 := (by injection e243)
               replace hx243_0 := (HB.out.cell (World.block_lt_of_cell? w _ hx243_0)).trans hx243_0
               have HR243_0 := Aside0.mk hi243_0
               have HC243_0 := Aside0.mk hl243_0
               clear hi243_0 hl243_0
               replace p243 := eq_true p243
               replace q243 := eq_true q243
               have p244 : 0 ≤ (0 : Int) := (by omega)
               have q244 : 0 < ((rd_L1 l0_1 (ji17)).length : Int) := of_decide_eq_true as_
               obtain ⟨ad244, e244, hx244_0⟩ := Zv HR243_0.out 0 p244 q244
               cases e244
               have qi244 : (0 < (rd_L1 l0_1 (ji17)).length) = True := eq_true (by omega)
               (try rw [show ((0 : Int)).toNat = 0 from rfl] at hx244_0)
               (try rw [Addr.add_zero'] at hx244_0)
               replace hx244_0 := (HB.out.cell (World.block_lt_of_cell? w _ hx244_0)).trans hx244_0
               replace p244 := eq_true p244
               replace q244 := eq_true q244
               have p245 : 0 ≤ (0 : Int) := (by omega)
               have q245 : 0 < ((rd_L1 l0_1 x3_1).length : Int) := of_decide_eq_true as_
               obtain ⟨ad245, e245, hx245_0⟩ := Zv HR238_0.out 0 p245 q245
               cases e245
               have qi245 : (0 < (rd_L1 l0_1 x3_1).length) = True := eq_true (by omega)
               (try rw [show ((0 : Int)).toNat = 0 from rfl] at hx245_0)
               (try rw [Addr.add_zero'] at hx245_0)
               replace hx245_0 := (HB.out.cell (World.block_lt_of_cell? w _ hx245_0)).trans hx245_0
               replace p245 := eq_true p245
               replace q245 := eq_true q245
               have p246 : 0 ≤ (0 : Int) := (by omega)
               have q246 : 0 < ((rd_L1 l0_1 (ji17)).length : Int) := of_decide_eq_true as_
               obtain ⟨ad246, e246, hx246_0⟩ := Zv HR243_0.out 0 p246 q246
               obtain rfl : ad244 = ad246 := (by injection e246)
               have qi246 : (0 < (rd_L1 l0_1 (ji17)).length) = True := eq_true (by omega)
               (try rw [show ((0 : Int)).toNat = 0 from rfl] at hx246_0)
               (try rw [Addr.add_zero'] at hx246_0)
               replace hx246_0 := (HB.out.cell (World.block_lt_of_cell? w _ hx246_0)).trans hx246_0
               replace p246 := eq_true p246
               replace q246 := eq_true q246
               have p247 : 0 ≤ (0 : Int) := (by omega)
               have q247 : 0 < ((rd_L1 l0_1 x3_1).length : Int) := of_decide_eq_true as_
               obtain ⟨ad247, e247, hx247_0⟩ := Zv HR238_0.out 0 p247 q247
               obtain rfl : ad245 = ad247 := (by injection e247)
               have qi247 : (0 < (rd_L1 l0_1 x3_1).length) = True := eq_true (by omega)
               (try rw [show ((0 : Int)).toNat = 0 from rfl] at hx247_0)
               (try rw [Addr.add_zero'] at hx247_0)
               replace hx247_0 := (HB.out.cell (World.block_lt_of_cell? w _ hx247_0)).trans hx247_0
               replace p247 := eq_true p247
               replace q247 := eq_true q247
               go_wp2
               repeat (go_quiet (fail); try go_wp2)
               go_roundg kj4
               case measure => have := HK1.out; have := HJ4.out; omega
               case rel => exact ⟨(wrap64 (x3_1 + 1)), sm_, H', ⟨by have := HK1.out; have := HJ4.out; omega⟩, ⟨bk_ BK236.out⟩, ⟨hB_⟩⟩
            ·rw [if_neg c21] at H
             exact absurd H (by simp)
           ·rw [if_neg c20] at H
            exact absurd H (by simp)
          ·rw [if_neg c19] at H
           exact absurd H (by simp)
         ·rw [if_neg c18] at H
          exact absurd H (by simp)
        ·rw [if_neg c16] at H
         have c16b0 : decide (0 < x3_1) = false := decide_eq_false c16
         clear c16
         have H' := Aside0.mk H
         clear H
         go_wp2
         repeat (go_quiet (fail); try go_wp2)
         go_roundg kj4
         case measure => have := HK1.out; have := HJ4.out; omega
         case rel => exact ⟨(wrap64 (x3_1 + 1)), sm_, H', ⟨by have := HK1.out; have := HJ4.out; omega⟩, ⟨bk_ BK236.out⟩, ⟨hB_⟩⟩
    ·rw [if_neg c4] at H
     exact absurd H (by simp)
   ·rw [if_neg c3] at H
    have c3b0 : decide (x3_1 < (l0_1.length : Int)) = false := decide_eq_false c3
    clear c3
    replace H := Option.bind_eq_some_iff.mp H
    obtain ⟨t237, A310, H⟩ := H
    replace H : (some t237) = some r := H
    have A31 := Aside0.mk A310
    clear A310
    obtain rfl := Option.some.inj H
    have hcz32_0 : wr.cell? ⟨gb236, 0, none⟩ = some (.int .i64 a0_0) := (Za BK236.out 0).trans rfl
    have hcz32_1 : wr.cell? ⟨gb236, 1, none⟩ = some (.slice A0_1 l0_1.length c0_1) := (Za BK236.out 1).trans rfl
    have hfz32_0 := Zb BK236.out 0
    have hfz32_1 := Zb BK236.out 1
    go_wp2_with (first | (go_at_call 58; (with_reducible refine (spec_l1In.calls a0_0 0 10 t237 _ A31.out).mono ?_); rintro e w' ⟨rfl, ⟨nd, rfl⟩⟩; (try first | exact ⟨rfl, _, World.drewN_drewN _ _ _⟩ | exact ⟨rfl, _, Eq.trans (World.drewN_drewN _ _ _) (congrArg (World.drewN _) (Nat.add_assoc _ _ _))⟩)))
    repeat (go_quiet (first | (go_at_call 58; (with_reducible refine (spec_l1In.calls a0_0 0 10 t237 _ A31.out).mono ?_); rintro e w' ⟨rfl, ⟨nd, rfl⟩⟩; (try first | exact ⟨rfl, _, World.drewN_drewN _ _ _⟩ | exact ⟨rfl, _, Eq.trans (World.drewN_drewN _ _ _) (congrArg (World.drewN _) (Nat.add_assoc _ _ _))⟩))); try go_wp2_with (first | (go_at_call 58; (with_reducible refine (spec_l1In.calls a0_0 0 10 t237 _ A31.out).mono ?_); rintro e w' ⟨rfl, ⟨nd, rfl⟩⟩; (try first | exact ⟨rfl, _, World.drewN_drewN _ _ _⟩ | exact ⟨rfl, _, Eq.trans (World.drewN_drewN _ _ _) (congrArg (World.drewN _) (Nat.add_assoc _ _ _))⟩))))
    go_ret
    exact ⟨er_, hB_⟩

end Go.Proofs.Ytdlobolnajcfnaa.PFnGames
