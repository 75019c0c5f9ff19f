-- Written by a program of this session (hooks of mine on the print): Lean checks it.
import Derived.Test.YtdlobolnajcfnaaPFnDisputesx0
import Derived.Test.YtdlobolnajcfnaaPFnDisputesx2
import Derived.Test.YtdlobolnajcfnaaPFnDisputesx13
namespace Go.Proofs.Ytdlobolnajcfnaa.PFnDisputes
open Go.RowKit Go.Proofs.YtdlobolnajcfnaaW.PrintWords Go.Proofs.YtdlobolnajcfnaaW.PrintLast Go.Proofs.YtdlobolnajcfnaaW.PrintMore
attribute [local go_sem] max2_int min2_int max_two min_two max_three min_three max_four min_four   -- for this text's walks alone
set_option linter.unusedVariables false
set_option linter.unusedSimpArgs false

/-! ### impl_IsPartOf: function 45 -/
mutual
def impl_IsPartOf.j0 : Nat → Bool → Int → List (List Int) → Int → List (List Int) → Option (Bool)
 | 0, _, _, _, _, _ => none
 | k + 1, x22, x480000, x480001, x481000, x481001 => if x22 = true then (some false) else (impl_IsPartOf.l0 k (([] : List (List Int))) x481001 (x481001.length : Int) 0 x480000 x480001)
def impl_IsPartOf.l0 : Nat → List (List Int) → List (List Int) → Int → Int → Int → List (List Int) → Option (Bool)
 | 0, _, _, _, _, _, _ => none
 | k + 1, x5, x25, x26, x27, x480000, x480001 => if x27 < x26 then (if 0 ≤ x27 then (if x27 < (x25.length : Int) then (if 0 < ((rd_L2 x25 x27).length : Int) then (if (rd (rd_L2 x25 x27) 0) < x480000 then (if 1 < ((rd_L2 x25 x27).length : Int) then (if (rd (rd_L2 x25 x27) 1) < x480000 then (if x5.length < 5864062014805 then (impl_IsPartOf.l0 k (x5 ++ [rd_L2 x25 x27]) x25 x26 (wrap64 (x27 + 1)) x480000 x480001) else (none)) else (impl_IsPartOf.l0 k x5 x25 x26 (wrap64 (x27 + 1)) x480000 x480001)) else (none)) else (impl_IsPartOf.l0 k x5 x25 x26 (wrap64 (x27 + 1)) x480000 x480001)) else (none)) else (none)) else (none)) else ((slices_EqualFunc_int_int_int_int.f k x480001 x5 76).bind fun t492 => (some t492))
end
def impl_IsPartOf.f (k : Nat) (a0_0 : Int) (l0_1 : List (List Int)) (a1_0 : Int) (l1_1 : List (List Int)) : Option (Bool) := (impl_IsGraph.f k a0_0 l0_1).bind fun t481 => (if t481 = true then ((impl_IsGraph.f k a1_0 l1_1).bind fun t482 => (if t482 = true then (impl_IsPartOf.j0 k (decide (a0_0 > a1_0)) a0_0 l0_1 a1_0 l1_1) else (impl_IsPartOf.j0 k true a0_0 l0_1 a1_0 l1_1))) else (impl_IsPartOf.j0 k true a0_0 l0_1 a1_0 l1_1))
theorem impl_IsPartOf.mono_l : ∀ k, (∀ y0 y1 y2 y3 y4, LeO (impl_IsPartOf.j0 k y0 y1 y2 y3 y4) (impl_IsPartOf.j0 (k + 1) y0 y1 y2 y3 y4)) ∧ (∀ y0 y1 y2 y3 y4 y5, LeO (impl_IsPartOf.l0 k y0 y1 y2 y3 y4 y5) (impl_IsPartOf.l0 (k + 1) y0 y1 y2 y3 y4 y5))
 | 0 => ⟨fun _ _ _ _ _ r h => by simp [impl_IsPartOf.j0] at h, fun _ _ _ _ _ _ r h => by simp [impl_IsPartOf.l0] at h⟩
 | k + 1 => by
  obtain ⟨ih0, ih1⟩ := impl_IsPartOf.mono_l k
  refine ⟨?_, ?_⟩
  ·intro y0 y1 y2 y3 y4
   unfold impl_IsPartOf.j0
   repeat' with_reducible first | apply ih0 | apply ih1 | apply impl_IsGraph.mono | apply slices_EqualFunc_int_int_int_int.mono | apply ZJ | apply Zn | refine Zu ?_ ?_ | refine Zo ?_ (fun _ => ?_)
  ·intro y0 y1 y2 y3 y4 y5
   unfold impl_IsPartOf.l0
   repeat' with_reducible first | apply ih0 | apply ih1 | apply impl_IsGraph.mono | apply slices_EqualFunc_int_int_int_int.mono | apply ZJ | apply Zn | refine Zu ?_ ?_ | refine Zo ?_ (fun _ => ?_)
theorem impl_IsPartOf.mono : ∀ a0 a1 a2 a3 k, LeO (impl_IsPartOf.f k a0 a1 a2 a3) (impl_IsPartOf.f (k + 1) a0 a1 a2 a3) := by
 intro a0 a1 a2 a3 k
 obtain ⟨ih0, ih1⟩ := impl_IsPartOf.mono_l k
 unfold impl_IsPartOf.f
 repeat' with_reducible first | apply ih0 | apply ih1 | apply impl_IsGraph.mono | apply slices_EqualFunc_int_int_int_int.mono | apply ZJ | apply Zn | refine Zu ?_ ?_ | refine Zo ?_ (fun _ => ?_)
set_option maxHeartbeats 8000000 in
set_option maxRecDepth 100000 in
theorem impl_IsPartOf.calls (k : Nat) (a0_0 : Int) (A0_1 : Option Addr) (c0_1 : Nat) (l0_1 : List (List Int)) (a1_0 : Int) (P1_1_ : Nat → Prop) (A1_1 : Option Addr) (c1_1 : Nat) (l1_1 : List (List Int)) (r : Bool) (w : World) (hr0_1 : Kd.C (Kd.slice 3 (Kd.int .i64)) w A0_1 l0_1.length l0_1) (hc0_1 : l0_1.length ≤ c0_1) (hs1_1 : Kd.V (Kd.slice 3 (Kd.int .i64)) 31 w w.heap.size (fun k_ => P1_1_ k_) (.slice A1_1 l1_1.length c1_1) l1_1) (h : impl_IsPartOf.f k a0_0 l0_1 a1_0 l1_1 = some r) :
  Calls Try.prog 45 #[.agg #[.int .i64 a0_0, .slice A0_1 l0_1.length c0_1], .agg #[.int .i64 a1_0, .slice A1_1 l1_1.length c1_1]] w fun e w' => e = .returned (.bool r) ∧ Below w.heap.size w w' := by
 have hu27 := Try.underlying27
 have HR0_1 := Aside0.mk hr0_1
 have HC0_1 := Aside0.mk hc0_1
 clear hr0_1 hc0_1
 have HO1_1 := Aside0.mk (show Kd.V (Kd.slice 3 (Kd.int .i64)) 31 w w.heap.size (fun k_ => (P1_1_ k_ ∨ w.heap.size ≤ k_)) (.slice A1_1 l1_1.length c1_1) l1_1 from Kd.V_mono hs1_1 (fun k_ hk => .inl hk))
 have HB := Aside0.mk (Below.refl w.heap.size w)
 have H := h
 unfold impl_IsPartOf.f at H
 clear h
 have HC3 := Aside0.mk H
 clear H
 go_enter Try.func45, Try.ntmps45
 go_upto_region 1 with (first | ((with_reducible refine ZA (N := 2) rfl ?_); refine ZC ?hg (N := 2) ?hd (cs := #[.int .i64 a0_0, .slice A0_1 l0_1.length c0_1]) (t := 27) ?hr ?_; (case hd => rfl); (case hg => rfl); (case hr => first | (go_simp; done) | (go_simp; rfl)); intro gb479 hg w4 hbox hb; replace HO1_1 := Aside0.mk (Kd.V_below (Kd.V_elderB (rV_ HO1_1.out) gb479 (Nat.le_of_eq hg.symm)) hb); have BK479 := Aside0.mk (hbox); have GW479 := Aside0.mk ((hz_ hg : w.heap.size ≤ gb479)); have GE479 := Aside0.mk ((hz_ hg : w.heap.size ≤ gb479)); replace HB := Aside0.mk (Zh hB_ hb); clear hb hbox hg) | ((with_reducible refine ZA (N := 3) rfl ?_); refine ZC ?hg (N := 3) ?hd (cs := #[.int .i64 a1_0, .slice A1_1 l1_1.length c1_1]) (t := 27) ?hr ?_; (case hd => rfl); (case hg => rfl); (case hr => first | (go_simp; done) | (go_simp; rfl)); intro gb480 hg w5 hbox hb; replace HO1_1 := Aside0.mk (Kd.V_below (Kd.V_elderB (rV_ HO1_1.out) gb480 (Nat.le_of_eq hg.symm)) hb); have BK480 := Aside0.mk (hbox); have GW480 := Aside0.mk ((hz_ hg : w.heap.size ≤ gb480)); have GE480 := Aside0.mk ((hz_ hg : w.heap.size ≤ gb480)); replace HB := Aside0.mk (Zh hB_ hb); have NB479_480 := Aside0.mk ((by rw [hg]; exact Nat.ne_of_lt (ZS (bq_ BK479.out)) : gb479 ≠ gb480)); have NB480_479 := Aside0.mk ((by rw [hg]; exact Nat.ne_of_gt (ZS (bq_ BK479.out)) : gb480 ≠ gb479)); replace BK479 := Aside0.mk (Zg (bq_ BK479.out) hb); clear hb hbox hg))
 repeat (go_quiet (first | ((with_reducible refine ZA (N := 2) rfl ?_); refine ZC ?hg (N := 2) ?hd (cs := #[.int .i64 a0_0, .slice A0_1 l0_1.length c0_1]) (t := 27) ?hr ?_; (case hd => rfl); (case hg => rfl); (case hr => first | (go_simp; done) | (go_simp; rfl)); intro gb479 hg w4 hbox hb; replace HO1_1 := Aside0.mk (Kd.V_below (Kd.V_elderB (rV_ HO1_1.out) gb479 (Nat.le_of_eq hg.symm)) hb); have BK479 := Aside0.mk (hbox); have GW479 := Aside0.mk ((hz_ hg : w.heap.size ≤ gb479)); have GE479 := Aside0.mk ((hz_ hg : w.heap.size ≤ gb479)); replace HB := Aside0.mk (Zh hB_ hb); clear hb hbox hg) | ((with_reducible refine ZA (N := 3) rfl ?_); refine ZC ?hg (N := 3) ?hd (cs := #[.int .i64 a1_0, .slice A1_1 l1_1.length c1_1]) (t := 27) ?hr ?_; (case hd => rfl); (case hg => rfl); (case hr => first | (go_simp; done) | (go_simp; rfl)); intro gb480 hg w5 hbox hb; replace HO1_1 := Aside0.mk (Kd.V_below (Kd.V_elderB (rV_ HO1_1.out) gb480 (Nat.le_of_eq hg.symm)) hb); have BK480 := Aside0.mk (hbox); have GW480 := Aside0.mk ((hz_ hg : w.heap.size ≤ gb480)); have GE480 := Aside0.mk ((hz_ hg : w.heap.size ≤ gb480)); replace HB := Aside0.mk (Zh hB_ hb); have NB479_480 := Aside0.mk ((by rw [hg]; exact Nat.ne_of_lt (ZS (bq_ BK479.out)) : gb479 ≠ gb480)); have NB480_479 := Aside0.mk ((by rw [hg]; exact Nat.ne_of_gt (ZS (bq_ BK479.out)) : gb480 ≠ gb479)); replace BK479 := Aside0.mk (Zg (bq_ BK479.out) hb); clear hb hbox hg)); go_upto_region 1 with (first | ((with_reducible refine ZA (N := 2) rfl ?_); refine ZC ?hg (N := 2) ?hd (cs := #[.int .i64 a0_0, .slice A0_1 l0_1.length c0_1]) (t := 27) ?hr ?_; (case hd => rfl); (case hg => rfl); (case hr => first | (go_simp; done) | (go_simp; rfl)); intro gb479 hg w4 hbox hb; replace HO1_1 := Aside0.mk (Kd.V_below (Kd.V_elderB (rV_ HO1_1.out) gb479 (Nat.le_of_eq hg.symm)) hb); have BK479 := Aside0.mk (hbox); have GW479 := Aside0.mk ((hz_ hg : w.heap.size ≤ gb479)); have GE479 := Aside0.mk ((hz_ hg : w.heap.size ≤ gb479)); replace HB := Aside0.mk (Zh hB_ hb); clear hb hbox hg) | ((with_reducible refine ZA (N := 3) rfl ?_); refine ZC ?hg (N := 3) ?hd (cs := #[.int .i64 a1_0, .slice A1_1 l1_1.length c1_1]) (t := 27) ?hr ?_; (case hd => rfl); (case hg => rfl); (case hr => first | (go_simp; done) | (go_simp; rfl)); intro gb480 hg w5 hbox hb; replace HO1_1 := Aside0.mk (Kd.V_below (Kd.V_elderB (rV_ HO1_1.out) gb480 (Nat.le_of_eq hg.symm)) hb); have BK480 := Aside0.mk (hbox); have GW480 := Aside0.mk ((hz_ hg : w.heap.size ≤ gb480)); have GE480 := Aside0.mk ((hz_ hg : w.heap.size ≤ gb480)); replace HB := Aside0.mk (Zh hB_ hb); have NB479_480 := Aside0.mk ((by rw [hg]; exact Nat.ne_of_lt (ZS (bq_ BK479.out)) : gb479 ≠ gb480)); have NB480_479 := Aside0.mk ((by rw [hg]; exact Nat.ne_of_gt (ZS (bq_ BK479.out)) : gb480 ≠ gb479)); replace BK479 := Aside0.mk (Zg (bq_ BK479.out) hb); clear hb hbox hg)))
 (try simp only [Act.put, ZW, List.set_cons_zero, List.set_cons_succ])
 go_cut [22] (fun v22 wc => ∃ (kq : Nat) (x22_2 : Bool), v22 = .bool x22_2 ∧ Aside0 (impl_IsPartOf.j0 kq x22_2 a0_0 l0_1 a1_0 l1_1 = some r) ∧ Aside0 (kq ≤ k) ∧ Aside0 (Kd.V (Kd.slice 3 (Kd.int .i64)) 31 wc w.heap.size (fun k_ => (P1_1_ k_ ∨ w.heap.size ≤ k_) ∧ k_ ≠ gb479 ∧ k_ ≠ gb480) (.slice A1_1 l1_1.length c1_1) l1_1) ∧ Aside0 (wc.heap[gb479]? = some (.cells #[.int .i64 a0_0, (.slice A0_1 l0_1.length c0_1)] 27 (0, 0))) ∧ Aside0 (wc.heap[gb480]? = some (.cells #[.int .i64 a1_0, (.slice A1_1 l1_1.length c1_1)] 27 (0, 0))) ∧ Aside0 (Below w.heap.size w wc))
 case first =>
  have H := HC3.out
  clear HC3
  obtain ⟨t481, A6, H⟩ := bd_ H
  try dsimp only at H
  by_cases c7 : t481 = true
  rotate_left
  ·replace c7 := Bool.eq_false_iff.mpr c7
   subst c7
   rw [if_neg (show ¬ (false = true) by decide)] at H
   try dsimp only at H
   have H' := Aside0.mk H
   clear H
   have hnb22 := NB479_480.out
   have hnc22 := NB480_479.out
   obtain ⟨hcz23_0, hcz23_1, hfz23_0, hfz23_1⟩ := c2_ BK479.out
   go_wp2_with (first | (go_at_call 24; (with_reducible refine (impl_IsGraph.calls k a0_0 _ _ l0_1 false _ ?side1 ?side2 A6.out).mono ?_); (case side1 => exact cb_ HR0_1.out); (case side2 => exact HC0_1.out); rintro e w24 ⟨rfl, hb⟩; replace HO1_1 := Aside0.mk (Kd.V_below (rV_ HO1_1.out) hb); replace BK479 := Aside0.mk (Zg (bq_ BK479.out) hb); replace BK480 := Aside0.mk (Zg (bq_ BK480.out) hb); replace HB := Aside0.mk (Zh hB_ hb); (try clear hb)))
   repeat (go_quiet (first | (go_at_call 24; (with_reducible refine (impl_IsGraph.calls k a0_0 _ _ l0_1 false _ ?side1 ?side2 A6.out).mono ?_); (case side1 => exact cb_ HR0_1.out); (case side2 => exact HC0_1.out); rintro e w24 ⟨rfl, hb⟩; replace HO1_1 := Aside0.mk (Kd.V_below (rV_ HO1_1.out) hb); replace BK479 := Aside0.mk (Zg (bq_ BK479.out) hb); replace BK480 := Aside0.mk (Zg (bq_ BK480.out) hb); replace HB := Aside0.mk (Zh hB_ hb); (try clear hb))); try go_wp2_with (first | (go_at_call 24; (with_reducible refine (impl_IsGraph.calls k a0_0 _ _ l0_1 false _ ?side1 ?side2 A6.out).mono ?_); (case side1 => exact cb_ HR0_1.out); (case side2 => exact HC0_1.out); rintro e w24 ⟨rfl, hb⟩; replace HO1_1 := Aside0.mk (Kd.V_below (rV_ HO1_1.out) hb); replace BK479 := Aside0.mk (Zg (bq_ BK479.out) hb); replace BK480 := Aside0.mk (Zg (bq_ BK480.out) hb); replace HB := Aside0.mk (Zh hB_ hb); (try clear hb))))
   go_meet
   case rel => exact ⟨_, (true), sm_, H', ⟨by first | omega | exact Nat.le_refl _⟩, ⟨by (with_reducible repeat (first | apply Kd.V_alloc | apply Kd.V_drewN | apply Kd.V_drew)); exact Kd.V_mono HO1_1.out (fun _ hk => ⟨hk.1.1, ⟨hk.1.2, hk.2⟩⟩)⟩, ⟨bk_ BK479.out⟩, ⟨bk_ BK480.out⟩, ⟨hB_⟩⟩
  subst c7
  rw [if_pos rfl] at H
  try dsimp only at H
  obtain ⟨t482, A8, H⟩ := bd_ H
  try dsimp only at H
  by_cases c9 : t482 = true
  ·subst c9
   rw [if_pos rfl] at H
   try dsimp only at H
   have H' := Aside0.mk H
   clear H
   have hnb10 := NB479_480.out
   have hnc10 := NB480_479.out
   obtain ⟨hcz11_0, hcz11_1, hfz11_0, hfz11_1⟩ := c2_ BK479.out
   go_wp2_with (first | (go_at_call 24; (with_reducible refine (impl_IsGraph.calls k a0_0 _ _ l0_1 true _ ?side1 ?side2 A6.out).mono ?_); (case side1 => exact cb_ HR0_1.out); (case side2 => exact HC0_1.out); rintro e w12 ⟨rfl, hb⟩; replace HO1_1 := Aside0.mk (Kd.V_below (rV_ HO1_1.out) hb); replace BK479 := Aside0.mk (Zg (bq_ BK479.out) hb); replace BK480 := Aside0.mk (Zg (bq_ BK480.out) hb); replace HB := Aside0.mk (Zh hB_ hb); (try clear hb); obtain ⟨hcz13_0, hcz13_1, hfz13_0, hfz13_1⟩ := c2_ BK480.out) | (go_at_call 24; (with_reducible refine (impl_IsGraph.calls k a1_0 _ _ l1_1 true _ ?side1 ?side2 A8.out).mono ?_); (case side1 => exact sA_ (Kd.V_reads' HO1_1.out).2.2); (case side2 => exact (Kd.V_reads' HO1_1.out).2.1); rintro e w14 ⟨rfl, hb⟩; replace HO1_1 := Aside0.mk (Kd.V_below (rV_ HO1_1.out) hb); replace BK479 := Aside0.mk (Zg (bq_ BK479.out) hb); replace BK480 := Aside0.mk (Zg (bq_ BK480.out) hb); replace HB := Aside0.mk (Zh hB_ hb); (try clear hb); obtain ⟨hcz15_0, hcz15_1, hfz15_0, hfz15_1⟩ := c2_ BK479.out; obtain ⟨hcz16_0, hcz16_1, hfz16_0, hfz16_1⟩ := c2_ BK480.out))
   repeat (go_quiet (first | (go_at_call 24; (with_reducible refine (impl_IsGraph.calls k a0_0 _ _ l0_1 true _ ?side1 ?side2 A6.out).mono ?_); (case side1 => exact cb_ HR0_1.out); (case side2 => exact HC0_1.out); rintro e w12 ⟨rfl, hb⟩; replace HO1_1 := Aside0.mk (Kd.V_below (rV_ HO1_1.out) hb); replace BK479 := Aside0.mk (Zg (bq_ BK479.out) hb); replace BK480 := Aside0.mk (Zg (bq_ BK480.out) hb); replace HB := Aside0.mk (Zh hB_ hb); (try clear hb); obtain ⟨hcz13_0, hcz13_1, hfz13_0, hfz13_1⟩ := c2_ BK480.out) | (go_at_call 24; (with_reducible refine (impl_IsGraph.calls k a1_0 _ _ l1_1 true _ ?side1 ?side2 A8.out).mono ?_); (case side1 => exact sA_ (Kd.V_reads' HO1_1.out).2.2); (case side2 => exact (Kd.V_reads' HO1_1.out).2.1); rintro e w14 ⟨rfl, hb⟩; replace HO1_1 := Aside0.mk (Kd.V_below (rV_ HO1_1.out) hb); replace BK479 := Aside0.mk (Zg (bq_ BK479.out) hb); replace BK480 := Aside0.mk (Zg (bq_ BK480.out) hb); replace HB := Aside0.mk (Zh hB_ hb); (try clear hb); obtain ⟨hcz15_0, hcz15_1, hfz15_0, hfz15_1⟩ := c2_ BK479.out; obtain ⟨hcz16_0, hcz16_1, hfz16_0, hfz16_1⟩ := c2_ BK480.out)); try go_wp2_with (first | (go_at_call 24; (with_reducible refine (impl_IsGraph.calls k a0_0 _ _ l0_1 true _ ?side1 ?side2 A6.out).mono ?_); (case side1 => exact cb_ HR0_1.out); (case side2 => exact HC0_1.out); rintro e w12 ⟨rfl, hb⟩; replace HO1_1 := Aside0.mk (Kd.V_below (rV_ HO1_1.out) hb); replace BK479 := Aside0.mk (Zg (bq_ BK479.out) hb); replace BK480 := Aside0.mk (Zg (bq_ BK480.out) hb); replace HB := Aside0.mk (Zh hB_ hb); (try clear hb); obtain ⟨hcz13_0, hcz13_1, hfz13_0, hfz13_1⟩ := c2_ BK480.out) | (go_at_call 24; (with_reducible refine (impl_IsGraph.calls k a1_0 _ _ l1_1 true _ ?side1 ?side2 A8.out).mono ?_); (case side1 => exact sA_ (Kd.V_reads' HO1_1.out).2.2); (case side2 => exact (Kd.V_reads' HO1_1.out).2.1); rintro e w14 ⟨rfl, hb⟩; replace HO1_1 := Aside0.mk (Kd.V_below (rV_ HO1_1.out) hb); replace BK479 := Aside0.mk (Zg (bq_ BK479.out) hb); replace BK480 := Aside0.mk (Zg (bq_ BK480.out) hb); replace HB := Aside0.mk (Zh hB_ hb); (try clear hb); obtain ⟨hcz15_0, hcz15_1, hfz15_0, hfz15_1⟩ := c2_ BK479.out; obtain ⟨hcz16_0, hcz16_1, hfz16_0, hfz16_1⟩ := c2_ BK480.out)))
   go_meet
   case rel => exact ⟨_, (decide (a0_0 > a1_0)), sm_, H', ⟨by first | omega | exact Nat.le_refl _⟩, ⟨by (with_reducible repeat (first | apply Kd.V_alloc | apply Kd.V_drewN | apply Kd.V_drew)); exact Kd.V_mono HO1_1.out (fun _ hk => ⟨hk.1.1, ⟨hk.1.2, hk.2⟩⟩)⟩, ⟨bk_ BK479.out⟩, ⟨bk_ BK480.out⟩, ⟨hB_⟩⟩
  replace c9 := Bool.eq_false_iff.mpr c9
  subst c9
  rw [if_neg (show ¬ (false = true) by decide)] at H
  try dsimp only at H
  have H' := Aside0.mk H
  clear H
  have hnb17 := NB479_480.out
  have hnc17 := NB480_479.out
  obtain ⟨hcz18_0, hcz18_1, hfz18_0, hfz18_1⟩ := c2_ BK479.out
  go_wp2_with (first | (go_at_call 24; (with_reducible refine (impl_IsGraph.calls k a0_0 _ _ l0_1 true _ ?side1 ?side2 A6.out).mono ?_); (case side1 => exact cb_ HR0_1.out); (case side2 => exact HC0_1.out); rintro e w19 ⟨rfl, hb⟩; replace HO1_1 := Aside0.mk (Kd.V_below (rV_ HO1_1.out) hb); replace BK479 := Aside0.mk (Zg (bq_ BK479.out) hb); replace BK480 := Aside0.mk (Zg (bq_ BK480.out) hb); replace HB := Aside0.mk (Zh hB_ hb); (try clear hb); obtain ⟨hcz20_0, hcz20_1, hfz20_0, hfz20_1⟩ := c2_ BK480.out) | (go_at_call 24; (with_reducible refine (impl_IsGraph.calls k a1_0 _ _ l1_1 false _ ?side1 ?side2 A8.out).mono ?_); (case side1 => exact sA_ (Kd.V_reads' HO1_1.out).2.2); (case side2 => exact (Kd.V_reads' HO1_1.out).2.1); rintro e w21 ⟨rfl, hb⟩; replace HO1_1 := Aside0.mk (Kd.V_below (rV_ HO1_1.out) hb); replace BK479 := Aside0.mk (Zg (bq_ BK479.out) hb); replace BK480 := Aside0.mk (Zg (bq_ BK480.out) hb); replace HB := Aside0.mk (Zh hB_ hb); (try clear hb)))
  repeat (go_quiet (first | (go_at_call 24; (with_reducible refine (impl_IsGraph.calls k a0_0 _ _ l0_1 true _ ?side1 ?side2 A6.out).mono ?_); (case side1 => exact cb_ HR0_1.out); (case side2 => exact HC0_1.out); rintro e w19 ⟨rfl, hb⟩; replace HO1_1 := Aside0.mk (Kd.V_below (rV_ HO1_1.out) hb); replace BK479 := Aside0.mk (Zg (bq_ BK479.out) hb); replace BK480 := Aside0.mk (Zg (bq_ BK480.out) hb); replace HB := Aside0.mk (Zh hB_ hb); (try clear hb); obtain ⟨hcz20_0, hcz20_1, hfz20_0, hfz20_1⟩ := c2_ BK480.out) | (go_at_call 24; (with_reducible refine (impl_IsGraph.calls k a1_0 _ _ l1_1 false _ ?side1 ?side2 A8.out).mono ?_); (case side1 => exact sA_ (Kd.V_reads' HO1_1.out).2.2); (case side2 => exact (Kd.V_reads' HO1_1.out).2.1); rintro e w21 ⟨rfl, hb⟩; replace HO1_1 := Aside0.mk (Kd.V_below (rV_ HO1_1.out) hb); replace BK479 := Aside0.mk (Zg (bq_ BK479.out) hb); replace BK480 := Aside0.mk (Zg (bq_ BK480.out) hb); replace HB := Aside0.mk (Zh hB_ hb); (try clear hb))); try go_wp2_with (first | (go_at_call 24; (with_reducible refine (impl_IsGraph.calls k a0_0 _ _ l0_1 true _ ?side1 ?side2 A6.out).mono ?_); (case side1 => exact cb_ HR0_1.out); (case side2 => exact HC0_1.out); rintro e w19 ⟨rfl, hb⟩; replace HO1_1 := Aside0.mk (Kd.V_below (rV_ HO1_1.out) hb); replace BK479 := Aside0.mk (Zg (bq_ BK479.out) hb); replace BK480 := Aside0.mk (Zg (bq_ BK480.out) hb); replace HB := Aside0.mk (Zh hB_ hb); (try clear hb); obtain ⟨hcz20_0, hcz20_1, hfz20_0, hfz20_1⟩ := c2_ BK480.out) | (go_at_call 24; (with_reducible refine (impl_IsGraph.calls k a1_0 _ _ l1_1 false _ ?side1 ?side2 A8.out).mono ?_); (case side1 => exact sA_ (Kd.V_reads' HO1_1.out).2.2); (case side2 => exact (Kd.V_reads' HO1_1.out).2.1); rintro e w21 ⟨rfl, hb⟩; replace HO1_1 := Aside0.mk (Kd.V_below (rV_ HO1_1.out) hb); replace BK479 := Aside0.mk (Zg (bq_ BK479.out) hb); replace BK480 := Aside0.mk (Zg (bq_ BK480.out) hb); replace HB := Aside0.mk (Zh hB_ hb); (try clear hb))))
  go_meet
  case rel => exact ⟨_, (true), sm_, H', ⟨by first | omega | exact Nat.le_refl _⟩, ⟨by (with_reducible repeat (first | apply Kd.V_alloc | apply Kd.V_drewN | apply Kd.V_drew)); exact Kd.V_mono HO1_1.out (fun _ hk => ⟨hk.1.1, ⟨hk.1.2, hk.2⟩⟩)⟩, ⟨bk_ BK479.out⟩, ⟨bk_ BK480.out⟩, ⟨hB_⟩⟩
 case rest =>
  clear HC3
  try clear c1
  try clear c2
  try clear p2
  try clear c4
  try clear c7
  try clear c9
  try clear c10
  try clear c17
  try clear c22
  try clear hcz11_0
  try clear hcz11_1
  try clear hcz13_0
  try clear hcz13_1
  try clear hcz15_0
  try clear hcz15_1
  try clear hcz16_0
  try clear hcz16_1
  try clear hcz18_0
  try clear hcz18_1
  try clear hcz20_0
  try clear hcz20_1
  try clear hcz23_0
  try clear hcz23_1
  try clear hfz11_0
  try clear hfz11_1
  try clear hfz13_0
  try clear hfz13_1
  try clear hfz15_0
  try clear hfz15_1
  try clear hfz16_0
  try clear hfz16_1
  try clear hfz18_0
  try clear hfz18_1
  try clear hfz20_0
  try clear hfz20_1
  try clear hfz23_0
  try clear hfz23_1
  obtain ⟨kq, x22_2, rfl, HA, HJ2, HO_481001, BK479, BK480, HB⟩ := hcut
  cases kq with
  | zero => exact absurd HA.out (by simp [impl_IsPartOf.j0])
  | succ kj2 =>
   have H := HA.out
   clear HA
   simp only [impl_IsPartOf.j0] at H
   by_cases c25 : x22_2 = true
   ·subst c25
    rw [if_pos rfl] at H
    try dsimp only at H
    obtain rfl := Option.some.inj H
    go_wp2
    repeat (go_quiet (fail); try go_wp2)
    go_ret
    exact ⟨er_, hB_⟩
   replace c25 := Bool.eq_false_iff.mpr c25
   subst c25
   rw [if_neg (show ¬ (false = true) by decide)] at H
   try dsimp only at H
   obtain ⟨y483, hy483⟩ : ∃ y_ : List (List Int), y_ = (([] : List (List Int))) := ⟨_, rfl⟩
   replace H : (impl_IsPartOf.l0 kj2 y483 l1_1 (l1_1.length : Int) 0 a0_0 l0_1) = some r := hy_ hy483 H
   have Ny483 := Aside0.mk hy483
   clear hy483
   have H' := Aside0.mk H
   clear H
   go_wp2_with (first | ((with_reducible refine ZA (N := 23) rfl ?_); refine Kd.N_lit (Kd.slice 3 (Kd.int .i64)) _ 31 ?hg (N' := 23) ?hd (xs := ([] : List (List Int))) (inner := []) (ok := (fun k_ => (P1_1_ k_ ∨ w.heap.size ≤ k_) ∧ k_ ≠ gb479 ∧ k_ ≠ gb480)) (okp := (fun k_ => (P1_1_ k_ ∨ w.heap.size ≤ k_) ∧ k_ ≠ gb479 ∧ k_ ≠ gb480)) ?hr ?hp (fun _ hk => hk) ((show ∀ k_, wc.heap.size ≤ k_ → (fun k_ => (P1_1_ k_ ∨ w.heap.size ≤ k_) ∧ k_ ≠ gb479 ∧ k_ ≠ gb480) k_ from fun k_ hk => ⟨(.inr (Nat.le_trans (Zm hB_) hk)), Kd.freshB (bq_ BK479.out) k_ hk, Kd.freshB (bq_ BK480.out) k_ hk⟩) _ (Nat.le_refl _)) (Below.refl _ _) (Nat.le_refl _) (by simp) ?_; (case hd => rfl); (case hg => rfl); (case hr => first | (go_simp; done) | (go_simp; rfl)); (case hp => exact (Reps.none _ _)); intro v484 w26 ho27 hb hg_ hnew_; clear hg_ hnew_; (first | rw [← Ny483.out] at ho27 | (simp only [Int.reduceToNat] at ho27; rw [← Ny483.out] at ho27)); replace HO_481001 := Aside0.mk (Kd.V_elder' (rV_ HO_481001.out) (Kd.N_base ho27) hb); have HO485 := Aside0.mk (Kd.N_lower ho27 (Zm hB_)); replace BK479 := Aside0.mk (Zg (bq_ BK479.out) hb); replace BK480 := Aside0.mk (Zg (bq_ BK480.out) hb); replace HB := Aside0.mk (Zh hB_ hb); clear hb ho27; have hnb28 := NB480_479.out; have hnc28 := NB479_480.out; obtain ⟨hcz29_0, hcz29_1, hfz29_0, hfz29_1⟩ := c2_ BK480.out))
   repeat (go_quiet (first | ((with_reducible refine ZA (N := 23) rfl ?_); refine Kd.N_lit (Kd.slice 3 (Kd.int .i64)) _ 31 ?hg (N' := 23) ?hd (xs := ([] : List (List Int))) (inner := []) (ok := (fun k_ => (P1_1_ k_ ∨ w.heap.size ≤ k_) ∧ k_ ≠ gb479 ∧ k_ ≠ gb480)) (okp := (fun k_ => (P1_1_ k_ ∨ w.heap.size ≤ k_) ∧ k_ ≠ gb479 ∧ k_ ≠ gb480)) ?hr ?hp (fun _ hk => hk) ((show ∀ k_, wc.heap.size ≤ k_ → (fun k_ => (P1_1_ k_ ∨ w.heap.size ≤ k_) ∧ k_ ≠ gb479 ∧ k_ ≠ gb480) k_ from fun k_ hk => ⟨(.inr (Nat.le_trans (Zm hB_) hk)), Kd.freshB (bq_ BK479.out) k_ hk, Kd.freshB (bq_ BK480.out) k_ hk⟩) _ (Nat.le_refl _)) (Below.refl _ _) (Nat.le_refl _) (by simp) ?_; (case hd => rfl); (case hg => rfl); (case hr => first | (go_simp; done) | (go_simp; rfl)); (case hp => exact (Reps.none _ _)); intro v484 w26 ho27 hb hg_ hnew_; clear hg_ hnew_; (first | rw [← Ny483.out] at ho27 | (simp only [Int.reduceToNat] at ho27; rw [← Ny483.out] at ho27)); replace HO_481001 := Aside0.mk (Kd.V_elder' (rV_ HO_481001.out) (Kd.N_base ho27) hb); have HO485 := Aside0.mk (Kd.N_lower ho27 (Zm hB_)); replace BK479 := Aside0.mk (Zg (bq_ BK479.out) hb); replace BK480 := Aside0.mk (Zg (bq_ BK480.out) hb); replace HB := Aside0.mk (Zh hB_ hb); clear hb ho27; have hnb28 := NB480_479.out; have hnc28 := NB479_480.out; obtain ⟨hcz29_0, hcz29_1, hfz29_0, hfz29_1⟩ := c2_ BK480.out)); try go_wp2_with (first | ((with_reducible refine ZA (N := 23) rfl ?_); refine Kd.N_lit (Kd.slice 3 (Kd.int .i64)) _ 31 ?hg (N' := 23) ?hd (xs := ([] : List (List Int))) (inner := []) (ok := (fun k_ => (P1_1_ k_ ∨ w.heap.size ≤ k_) ∧ k_ ≠ gb479 ∧ k_ ≠ gb480)) (okp := (fun k_ => (P1_1_ k_ ∨ w.heap.size ≤ k_) ∧ k_ ≠ gb479 ∧ k_ ≠ gb480)) ?hr ?hp (fun _ hk => hk) ((show ∀ k_, wc.heap.size ≤ k_ → (fun k_ => (P1_1_ k_ ∨ w.heap.size ≤ k_) ∧ k_ ≠ gb479 ∧ k_ ≠ gb480) k_ from fun k_ hk => ⟨(.inr (Nat.le_trans (Zm hB_) hk)), Kd.freshB (bq_ BK479.out) k_ hk, Kd.freshB (bq_ BK480.out) k_ hk⟩) _ (Nat.le_refl _)) (Below.refl _ _) (Nat.le_refl _) (by simp) ?_; (case hd => rfl); (case hg => rfl); (case hr => first | (go_simp; done) | (go_simp; rfl)); (case hp => exact (Reps.none _ _)); intro v484 w26 ho27 hb hg_ hnew_; clear hg_ hnew_; (first | rw [← Ny483.out] at ho27 | (simp only [Int.reduceToNat] at ho27; rw [← Ny483.out] at ho27)); replace HO_481001 := Aside0.mk (Kd.V_elder' (rV_ HO_481001.out) (Kd.N_base ho27) hb); have HO485 := Aside0.mk (Kd.N_lower ho27 (Zm hB_)); replace BK479 := Aside0.mk (Zg (bq_ BK479.out) hb); replace BK480 := Aside0.mk (Zg (bq_ BK480.out) hb); replace HB := Aside0.mk (Zh hB_ hb); clear hb ho27; have hnb28 := NB480_479.out; have hnc28 := NB479_480.out; obtain ⟨hcz29_0, hcz29_1, hfz29_0, hfz29_1⟩ := c2_ BK480.out)))
   go_loopg [5, 27] kj2 (fun kq v5 v27 w' => ∃ (x5_2 : List (List Int)) (x27_2 : Int), v27 = .int .i64 x27_2 ∧ Aside0 (impl_IsPartOf.l0 kq x5_2 l1_1 (l1_1.length : Int) x27_2 a0_0 l0_1 = some r) ∧ Aside0 (kq ≤ kj2) ∧ Aside0 (Kd.N (Kd.slice 3 (Kd.int .i64)) 31 w' w.heap.size (fun k_ => (P1_1_ k_ ∨ w.heap.size ≤ k_) ∧ k_ ≠ gb479) v5 x5_2) ∧ Aside0 (Kd.V (Kd.slice 3 (Kd.int .i64)) 31 w' w.heap.size (fun k_ => (P1_1_ k_ ∨ w.heap.size ≤ k_) ∧ some k_ ≠ (v5 : Value).ownBlock ∧ k_ ≠ gb479) (.slice A1_1 l1_1.length c1_1) l1_1) ∧ Aside0 (w'.heap[gb479]? = some (.cells #[.int .i64 a0_0, (.slice A0_1 l0_1.length c0_1)] 27 (0, 0))) ∧ Aside0 (Below w.heap.size w w'))
   case atStart => exact ⟨(y483), (0), sm_, H', ⟨Nat.le_refl _⟩, ⟨by (with_reducible repeat (first | apply Kd.N_alloc | apply Kd.N_drewN | apply Kd.N_drew)); exact Kd.N_mono HO485.out (fun _ hk => ⟨hk.1, hk.2.1⟩)⟩, ⟨by (with_reducible repeat (first | apply Kd.V_alloc | apply Kd.V_drewN | apply Kd.V_drew)); exact Kd.V_mono HO_481001.out (fun _ hk => ⟨hk.1.1, ⟨hk.2, hk.1.2.1⟩⟩)⟩, ⟨bk_ BK479.out⟩, ⟨hB_⟩⟩
   case round =>
    clear H'
    try clear c1
    try clear c2
    try clear p2
    try clear c4
    try clear c7
    try clear c9
    try clear c10
    try clear c17
    try clear c22
    try clear c25
    try clear c28
    try clear hcz11_0
    try clear hcz11_1
    try clear hcz13_0
    try clear hcz13_1
    try clear hcz15_0
    try clear hcz15_1
    try clear hcz16_0
    try clear hcz16_1
    try clear hcz18_0
    try clear hcz18_1
    try clear hcz20_0
    try clear hcz20_1
    try clear hcz23_0
    try clear hcz23_1
    try clear hcz29_0
    try clear hcz29_1
    try clear hfz11_0
    try clear hfz11_1
    try clear hfz13_0
    try clear hfz13_1
    try clear hfz15_0
    try clear hfz15_1
    try clear hfz16_0
    try clear hfz16_1
    try clear hfz18_0
    try clear hfz18_1
    try clear hfz20_0
    try clear hfz20_1
    try clear hfz23_0
    try clear hfz23_1
    try clear hfz29_0
    try clear hfz29_1
    try clear p2
    obtain ⟨x5_2, x27_2, rfl, HA, HK2, HO_5, HO_25, BK479, HB⟩ := hrel
    cases gk with
    | zero => exact absurd HA.out (by simp [impl_IsPartOf.l0])
    | succ k2 =>
     have H := HA.out
     clear HA
     simp only [impl_IsPartOf.l0] at H
     by_cases c30 : x27_2 < (l1_1.length : Int)
     rotate_left
     ·rw [if_neg c30] at H
      have c30b0 : decide (x27_2 < (l1_1.length : Int)) = false := decide_eq_false c30
      clear c30
      obtain ⟨t492, A42, H⟩ := bd_ H
      try dsimp only at H
      obtain rfl := Option.some.inj H
      obtain ⟨hcz43_0, hcz43_1, hfz43_0, hfz43_1⟩ := c2_ BK479.out
      obtain ⟨Ao44, co44, eo44⟩ := Kd.N_slice HO_5.out
      subst eo44
      go_wp2_with (first | (go_at_call 95; (with_reducible refine (slices_EqualFunc_int_int_int_int.calls k2 _ _ l0_1 _ _ x5_2 76 t492 _ ?side1 ?side2 ?side3 ?side4 A42.out).mono ?_); (case side1 => exact cb_ HR0_1.out); (case side2 => exact HC0_1.out); (case side3 => exact sA_ (Kd.N_reads' HO_5.out).2.2); (case side4 => exact (Kd.N_reads' HO_5.out).2.1); rintro e w' ⟨rfl, ⟨nd, rfl⟩⟩; (try first | exact ⟨rfl, _, World.drewN_drewN _ _ _⟩ | exact ⟨rfl, _, Eq.trans (World.drewN_drewN _ _ _) (congrArg (World.drewN _) (Nat.add_assoc _ _ _))⟩)))
      repeat (go_quiet (first | (go_at_call 95; (with_reducible refine (slices_EqualFunc_int_int_int_int.calls k2 _ _ l0_1 _ _ x5_2 76 t492 _ ?side1 ?side2 ?side3 ?side4 A42.out).mono ?_); (case side1 => exact cb_ HR0_1.out); (case side2 => exact HC0_1.out); (case side3 => exact sA_ (Kd.N_reads' HO_5.out).2.2); (case side4 => exact (Kd.N_reads' HO_5.out).2.1); rintro e w' ⟨rfl, ⟨nd, rfl⟩⟩; (try first | exact ⟨rfl, _, World.drewN_drewN _ _ _⟩ | exact ⟨rfl, _, Eq.trans (World.drewN_drewN _ _ _) (congrArg (World.drewN _) (Nat.add_assoc _ _ _))⟩))); try go_wp2_with (first | (go_at_call 95; (with_reducible refine (slices_EqualFunc_int_int_int_int.calls k2 _ _ l0_1 _ _ x5_2 76 t492 _ ?side1 ?side2 ?side3 ?side4 A42.out).mono ?_); (case side1 => exact cb_ HR0_1.out); (case side2 => exact HC0_1.out); (case side3 => exact sA_ (Kd.N_reads' HO_5.out).2.2); (case side4 => exact (Kd.N_reads' HO_5.out).2.1); rintro e w' ⟨rfl, ⟨nd, rfl⟩⟩; (try first | exact ⟨rfl, _, World.drewN_drewN _ _ _⟩ | exact ⟨rfl, _, Eq.trans (World.drewN_drewN _ _ _) (congrArg (World.drewN _) (Nat.add_assoc _ _ _))⟩))))
      go_ret
      exact ⟨er_, hB_⟩
     rw [if_pos c30] at H
     have c30b0 : decide (x27_2 < (l1_1.length : Int)) = true := decide_eq_true c30
     clear c30
     by_cases c31 : 0 ≤ x27_2
     rotate_left
     ·rw [if_neg c31] at H
      exact absurd H (by simp)
     rw [if_pos c31] at H
     have c31b0 : decide (0 ≤ x27_2) = true := decide_eq_true c31
     clear c31
     by_cases c32 : x27_2 < (l1_1.length : Int)
     rotate_left
     ·rw [if_neg c32] at H
      exact absurd H (by simp)
     rw [if_pos c32] at H
     have c32b0 : decide (x27_2 < (l1_1.length : Int)) = true := decide_eq_true c32
     clear c32
     by_cases c33 : 0 < ((rd_L2 l1_1 x27_2).length : Int)
     rotate_left
     ·rw [if_neg c33] at H
      exact absurd H (by simp)
     rw [if_pos c33] at H
     have c33b0 : decide (0 < ((rd_L2 l1_1 x27_2).length : Int)) = true := decide_eq_true c33
     have c33b1 : decide (0 < (rd_L2 l1_1 x27_2).length) = true := decide_eq_true (by omega)
     clear c33
     by_cases c34 : (rd (rd_L2 l1_1 x27_2) 0) < a0_0
     rotate_left
     ·rw [if_neg c34] at H
      have c34b0 : decide ((rd (rd_L2 l1_1 x27_2) 0) < a0_0) = false := decide_eq_false c34
      clear c34
      have H' := Aside0.mk H
      clear H
      have p486 : 0 ≤ (x27_2 : Int) := of_decide_eq_true as_
      have q486 : x27_2 < (l1_1.length : Int) := of_decide_eq_true as_
      obtain ⟨ad486, A486_0, c486_0, e486, hx486_0, hl486_0, hi486_0⟩ := at_L2 (Kd.V_reads' HO_25.out).2.2 x27_2 p486 q486
      cases e486
      obtain ⟨ce486, hce486, hMe486, hcc486⟩ := Kd.V_get HO_25.out [] x27_2 p486 (by first | exact q486 | exact of_decide_eq_true as_ | (have e_ := (Kd.V_reads' HO_25.out).1; omega))
      obtain ⟨ua486_0, uc486_0, rfl, ul486_0, ge486_0⟩ := Kd.FK_slice_open hMe486
      have hv486_0 := hcc486 0 _ rfl
      rw [Nat.add_zero, show ((Kd.slice 3 (Kd.int .i64))).sz = 1 from rfl, Nat.mul_one] at hv486_0
      replace hv486_0 := Option.some.inj (hv486_0.symm.trans hx486_0)
      injection hv486_0 with hva_ hvn_ hvc_
      rw [hva_] at ge486_0
      rw [hvc_] at ul486_0
      have HL486_0 := Aside0.mk (show Kd.V (Kd.int .i64) 3 _ w.heap.size _ _ (rd_L2 l1_1 x27_2) from Kd.V_mk ul486_0 ge486_0)
      clear hva_ hvn_ hvc_ ge486_0 ul486_0
      clear hcc486 hce486
      have HR486_0 := Aside0.mk hi486_0
      have HC486_0 := Aside0.mk hl486_0
      clear hi486_0 hl486_0
      replace p486 := eq_true p486
      replace q486 := eq_true q486
      have p487 : 0 ≤ (0 : Int) := (by omega)
      have q487 : 0 < ((rd_L2 l1_1 x27_2).length : Int) := of_decide_eq_true as_
      obtain ⟨ad487, e487, hx487_0⟩ := Zx (cf_ HR486_0.out) 0 p487 q487
      cases e487
      have qi487 : (0 < (rd_L2 l1_1 x27_2).length) = True := eq_true (by omega)
      (try rw [show ((0 : Int)).toNat = 0 from rfl] at hx487_0)
      (try rw [Addr.add_zero'] at hx487_0)
      replace p487 := eq_true p487
      replace q487 := eq_true q487
      obtain ⟨hcz41_0, hcz41_1, hfz41_0, hfz41_1⟩ := c2_ BK479.out
      go_wp2
      repeat (go_quiet (fail); try go_wp2)
      go_roundg k2
      case measure => have := HJ2.out; have := HK2.out; omega
      case rel => exact ⟨(x5_2), (wrap64 (x27_2 + 1)), sm_, H', ⟨by have := HJ2.out; have := HK2.out; omega⟩, ⟨rN_ HO_5.out⟩, ⟨rV_ HO_25.out⟩, ⟨bk_ BK479.out⟩, ⟨hB_⟩⟩
     rw [if_pos c34] at H
     have c34b0 : decide ((rd (rd_L2 l1_1 x27_2) 0) < a0_0) = true := decide_eq_true c34
     clear c34
     by_cases c35 : 1 < ((rd_L2 l1_1 x27_2).length : Int)
     rotate_left
     ·rw [if_neg c35] at H
      exact absurd H (by simp)
     rw [if_pos c35] at H
     have c35b0 : decide (1 < ((rd_L2 l1_1 x27_2).length : Int)) = true := decide_eq_true c35
     have c35b1 : decide (1 < (rd_L2 l1_1 x27_2).length) = true := decide_eq_true (by omega)
     clear c35
     by_cases c36 : (rd (rd_L2 l1_1 x27_2) 1) < a0_0
     rotate_left
     ·rw [if_neg c36] at H
      have c36b0 : decide ((rd (rd_L2 l1_1 x27_2) 1) < a0_0) = false := decide_eq_false c36
      clear c36
      have H' := Aside0.mk H
      clear H
      have p486 : 0 ≤ (x27_2 : Int) := of_decide_eq_true as_
      have q486 : x27_2 < (l1_1.length : Int) := of_decide_eq_true as_
      obtain ⟨ad486, A486_0, c486_0, e486, hx486_0, hl486_0, hi486_0⟩ := at_L2 (Kd.V_reads' HO_25.out).2.2 x27_2 p486 q486
      cases e486
      obtain ⟨ce486, hce486, hMe486, hcc486⟩ := Kd.V_get HO_25.out [] x27_2 p486 (by first | exact q486 | exact of_decide_eq_true as_ | (have e_ := (Kd.V_reads' HO_25.out).1; omega))
      obtain ⟨ua486_0, uc486_0, rfl, ul486_0, ge486_0⟩ := Kd.FK_slice_open hMe486
      have hv486_0 := hcc486 0 _ rfl
      rw [Nat.add_zero, show ((Kd.slice 3 (Kd.int .i64))).sz = 1 from rfl, Nat.mul_one] at hv486_0
      replace hv486_0 := Option.some.inj (hv486_0.symm.trans hx486_0)
      injection hv486_0 with hva_ hvn_ hvc_
      rw [hva_] at ge486_0
      rw [hvc_] at ul486_0
      have HL486_0 := Aside0.mk (show Kd.V (Kd.int .i64) 3 _ w.heap.size _ _ (rd_L2 l1_1 x27_2) from Kd.V_mk ul486_0 ge486_0)
      clear hva_ hvn_ hvc_ ge486_0 ul486_0
      clear hcc486 hce486
      have HR486_0 := Aside0.mk hi486_0
      have HC486_0 := Aside0.mk hl486_0
      clear hi486_0 hl486_0
      replace p486 := eq_true p486
      replace q486 := eq_true q486
      have p487 : 0 ≤ (0 : Int) := (by omega)
      have q487 : 0 < ((rd_L2 l1_1 x27_2).length : Int) := of_decide_eq_true as_
      obtain ⟨ad487, e487, hx487_0⟩ := Zx (cf_ HR486_0.out) 0 p487 q487
      cases e487
      have qi487 : (0 < (rd_L2 l1_1 x27_2).length) = True := eq_true (by omega)
      (try rw [show ((0 : Int)).toNat = 0 from rfl] at hx487_0)
      (try rw [Addr.add_zero'] at hx487_0)
      replace p487 := eq_true p487
      replace q487 := eq_true q487
      obtain ⟨hcz40_0, hcz40_1, hfz40_0, hfz40_1⟩ := c2_ BK479.out
      have p488 : 0 ≤ (1 : Int) := (by omega)
      have q488 : 1 < ((rd_L2 l1_1 x27_2).length : Int) := of_decide_eq_true as_
      obtain ⟨ad488, e488, hx488_0⟩ := Zx (cf_ HR486_0.out) 1 p488 q488
      obtain rfl : ad487 = ad488 := (by injection e488)
      (try simp only [show (1 : Int).toNat = 1 from rfl, Nat.reduceMul, Nat.reduceEqDiff, Go.Addr.add, ↓reduceIte] at hx488_0)
      have qi488 : (1 < (rd_L2 l1_1 x27_2).length) = True := eq_true (by omega)
      (try rw [show ((1 : Int)).toNat = 1 from rfl] at hx488_0)
      replace p488 := eq_true p488
      replace q488 := eq_true q488
      go_wp2
      repeat (go_quiet (fail); try go_wp2)
      go_roundg k2
      case measure => have := HJ2.out; have := HK2.out; omega
      case rel => exact ⟨(x5_2), (wrap64 (x27_2 + 1)), sm_, H', ⟨by have := HJ2.out; have := HK2.out; omega⟩, ⟨rN_ HO_5.out⟩, ⟨rV_ HO_25.out⟩, ⟨bk_ BK479.out⟩, ⟨hB_⟩⟩
     rw [if_pos c36] at H
     have c36b0 : decide ((rd (rd_L2 l1_1 x27_2) 1) < a0_0) = true := decide_eq_true c36
     clear c36
     by_cases c37 : x5_2.length < 5864062014805
     rotate_left
     ·rw [if_neg c37] at H
      exact absurd H (by simp)
     rw [if_pos c37] at H
     have LMc37 := Aside0.mk c37
     clear c37
     obtain ⟨y489, hy489⟩ : ∃ y_ : List (List Int), y_ = (x5_2 ++ [rd_L2 l1_1 x27_2]) := ⟨_, rfl⟩
     replace H : (impl_IsPartOf.l0 k2 y489 l1_1 (l1_1.length : Int) (wrap64 (x27_2 + 1)) a0_0 l0_1) = some r := hy_ hy489 H
     have Ny489 := Aside0.mk hy489
     clear hy489
     have H' := Aside0.mk H
     clear H
     have p486 : 0 ≤ (x27_2 : Int) := of_decide_eq_true as_
     have q486 : x27_2 < (l1_1.length : Int) := of_decide_eq_true as_
     obtain ⟨ad486, A486_0, c486_0, e486, hx486_0, hl486_0, hi486_0⟩ := at_L2 (Kd.V_reads' HO_25.out).2.2 x27_2 p486 q486
     cases e486
     obtain ⟨ce486, hce486, hMe486, hcc486⟩ := Kd.V_get HO_25.out [] x27_2 p486 (by first | exact q486 | exact of_decide_eq_true as_ | (have e_ := (Kd.V_reads' HO_25.out).1; omega))
     obtain ⟨ua486_0, uc486_0, rfl, ul486_0, ge486_0⟩ := Kd.FK_slice_open hMe486
     have hv486_0 := hcc486 0 _ rfl
     rw [Nat.add_zero, show ((Kd.slice 3 (Kd.int .i64))).sz = 1 from rfl, Nat.mul_one] at hv486_0
     replace hv486_0 := Option.some.inj (hv486_0.symm.trans hx486_0)
     injection hv486_0 with hva_ hvn_ hvc_
     rw [hva_] at ge486_0
     rw [hvc_] at ul486_0
     have HL486_0 := Aside0.mk (show Kd.V (Kd.int .i64) 3 _ w.heap.size _ _ (rd_L2 l1_1 x27_2) from Kd.V_mk ul486_0 ge486_0)
     clear hva_ hvn_ hvc_ ge486_0 ul486_0
     clear hcc486 hce486
     have HR486_0 := Aside0.mk hi486_0
     have HC486_0 := Aside0.mk hl486_0
     clear hi486_0 hl486_0
     replace p486 := eq_true p486
     replace q486 := eq_true q486
     have p487 : 0 ≤ (0 : Int) := (by omega)
     have q487 : 0 < ((rd_L2 l1_1 x27_2).length : Int) := of_decide_eq_true as_
     obtain ⟨ad487, e487, hx487_0⟩ := Zx (cf_ HR486_0.out) 0 p487 q487
     cases e487
     have qi487 : (0 < (rd_L2 l1_1 x27_2).length) = True := eq_true (by omega)
     (try rw [show ((0 : Int)).toNat = 0 from rfl] at hx487_0)
     (try rw [Addr.add_zero'] at hx487_0)
     replace p487 := eq_true p487
     replace q487 := eq_true q487
     obtain ⟨hcz38_0, hcz38_1, hfz38_0, hfz38_1⟩ := c2_ BK479.out
     have p488 : 0 ≤ (1 : Int) := (by omega)
     have q488 : 1 < ((rd_L2 l1_1 x27_2).length : Int) := of_decide_eq_true as_
     obtain ⟨ad488, e488, hx488_0⟩ := Zx (cf_ HR486_0.out) 1 p488 q488
     obtain rfl : ad487 = ad488 := (by injection e488)
     (try simp only [show (1 : Int).toNat = 1 from rfl, Nat.reduceMul, Nat.reduceEqDiff, Go.Addr.add, ↓reduceIte] at hx488_0)
     have qi488 : (1 < (rd_L2 l1_1 x27_2).length) = True := eq_true (by omega)
     (try rw [show ((1 : Int)).toNat = 1 from rfl] at hx488_0)
     replace p488 := eq_true p488
     replace q488 := eq_true q488
     go_wp2_with (first | ((with_reducible refine gate_builtin (b := .append) (xs := #[.tmp 45, .tmp 47]) rfl ?_); at_builtin; refine Kd.N_append (Kd.slice 3 (Kd.int .i64)) (w0 := w) w.heap.size rfl (.tmp 45) (.tmp 47) 22 31 (.slice none 0 0) 24 rfl Try.underlying22 info31 rfl (by decide) (by omega) u5 x5_2 (rd_L2 l1_1 x27_2) [.slice (some ad487) (rd_L2 l1_1 x27_2).length c486_0] (fun k_ => (P1_1_ k_ ∨ w.heap.size ≤ k_) ∧ k_ ≠ gb479) (fun k_ => ((fun k_ => (P1_1_ k_ ∨ w.heap.size ≤ k_) ∧ k_ ≠ gb479)) k_ ∧ some k_ ≠ (u5 : Value).ownBlock) rfl rfl ?aP (fun _ hk => hk) ?aF ?aO ?aB ?aS ?aL ?_; (case aP => first | exact (Kd.FK_slice_mk (Kd.V_reads' (Kd.V_mono (ok' := (fun k_ => ((fun k_ => (P1_1_ k_ ∨ w.heap.size ≤ k_) ∧ k_ ≠ gb479)) k_ ∧ some k_ ≠ (u5 : Value).ownBlock)) (HL486_0.out) (fun k_ hk => ⟨⟨hk.1, hk.2.2⟩, hk.2.1⟩))).2.1 (Kd.V_F (Kd.V_mono (ok' := (fun k_ => ((fun k_ => (P1_1_ k_ ∨ w.heap.size ≤ k_) ∧ k_ ≠ gb479)) k_ ∧ some k_ ≠ (u5 : Value).ownBlock)) (HL486_0.out) (fun k_ hk => ⟨⟨hk.1, hk.2.2⟩, hk.2.1⟩)))) | (have q1 := Kd.V_drewN HL486_0.out nq; have q2 := Kd.V_mono (ok' := (fun k_ => ((fun k_ => (P1_1_ k_ ∨ w.heap.size ≤ k_) ∧ k_ ≠ gb479)) k_ ∧ some k_ ≠ (u5 : Value).ownBlock)) q1 (fun k_ hk => ⟨⟨hk.1, hk.2.2⟩, hk.2.1⟩); exact Kd.FK_slice_mk (Kd.V_reads' q2).2.1 (Kd.V_F q2))); (case aB => exact hB_); (case aF => exact (fun k_ hk => ⟨(.inr (Nat.le_trans (Zm hB_) hk)), Kd.freshB (bq_ BK479.out) k_ hk⟩)); (case aO => exact (rN_ HO_5.out)); (case aS => exact (Zm hB_)); (case aL => have := LMc37.out; omega); intro v490 w39 ho hb hg hat; rw [← Ny489.out] at ho; have n0_ := Aside0.mk (Kd.V_afterv (ok := (fun k_ => (P1_1_ k_ ∨ w.heap.size ≤ k_) ∧ k_ ≠ gb479)) (by (with_reducible repeat (first | apply Kd.V_alloc | apply Kd.V_drewN | apply Kd.V_drew)); exact Kd.V_mono HO_25.out (fun _ hk => ⟨⟨hk.1, hk.2.2⟩, hk.2.1⟩)) hg hat); have n1_ := Aside0.mk (ZT (bq_ BK479.out) hg (Kd.N_ne HO_5.out BK479.out (by decide))); have n2_ := Aside0.mk (Kd.V_afterv (ok := (fun k_ => (P1_1_ k_ ∨ w.heap.size ≤ k_) ∧ k_ ≠ gb479)) (by (with_reducible repeat (first | apply Kd.V_alloc | apply Kd.V_drewN | apply Kd.V_drew)); exact Kd.V_mono HL486_0.out (fun _ hk => ⟨⟨hk.1, hk.2.2⟩, hk.2.1⟩)) hg hat); have n3_ := Aside0.mk (hb); have n4_ := Aside0.mk (ho); clear HO_25; clear BK479; clear HL486_0; clear HB; clear HO_5; have HO_25 := n0_; have BK479 := n1_; have HL486_0 := n2_; have HB := n3_; have HO491 := n4_; clear n0_ n1_ n2_ n3_ n4_; clear ho hb hg hat))
     repeat (go_quiet (first | ((with_reducible refine gate_builtin (b := .append) (xs := #[.tmp 45, .tmp 47]) rfl ?_); at_builtin; refine Kd.N_append (Kd.slice 3 (Kd.int .i64)) (w0 := w) w.heap.size rfl (.tmp 45) (.tmp 47) 22 31 (.slice none 0 0) 24 rfl Try.underlying22 info31 rfl (by decide) (by omega) u5 x5_2 (rd_L2 l1_1 x27_2) [.slice (some ad487) (rd_L2 l1_1 x27_2).length c486_0] (fun k_ => (P1_1_ k_ ∨ w.heap.size ≤ k_) ∧ k_ ≠ gb479) (fun k_ => ((fun k_ => (P1_1_ k_ ∨ w.heap.size ≤ k_) ∧ k_ ≠ gb479)) k_ ∧ some k_ ≠ (u5 : Value).ownBlock) rfl rfl ?aP (fun _ hk => hk) ?aF ?aO ?aB ?aS ?aL ?_; (case aP => first | exact (Kd.FK_slice_mk (Kd.V_reads' (Kd.V_mono (ok' := (fun k_ => ((fun k_ => (P1_1_ k_ ∨ w.heap.size ≤ k_) ∧ k_ ≠ gb479)) k_ ∧ some k_ ≠ (u5 : Value).ownBlock)) (HL486_0.out) (fun k_ hk => ⟨⟨hk.1, hk.2.2⟩, hk.2.1⟩))).2.1 (Kd.V_F (Kd.V_mono (ok' := (fun k_ => ((fun k_ => (P1_1_ k_ ∨ w.heap.size ≤ k_) ∧ k_ ≠ gb479)) k_ ∧ some k_ ≠ (u5 : Value).ownBlock)) (HL486_0.out) (fun k_ hk => ⟨⟨hk.1, hk.2.2⟩, hk.2.1⟩)))) | (have q1 := Kd.V_drewN HL486_0.out nq; have q2 := Kd.V_mono (ok' := (fun k_ => ((fun k_ => (P1_1_ k_ ∨ w.heap.size ≤ k_) ∧ k_ ≠ gb479)) k_ ∧ some k_ ≠ (u5 : Value).ownBlock)) q1 (fun k_ hk => ⟨⟨hk.1, hk.2.2⟩, hk.2.1⟩); exact Kd.FK_slice_mk (Kd.V_reads' q2).2.1 (Kd.V_F q2))); (case aB => exact hB_); (case aF => exact (fun k_ hk => ⟨(.inr (Nat.le_trans (Zm hB_) hk)), Kd.freshB (bq_ BK479.out) k_ hk⟩)); (case aO => exact (rN_ HO_5.out)); (case aS => exact (Zm hB_)); (case aL => have := LMc37.out; omega); intro v490 w39 ho hb hg hat; rw [← Ny489.out] at ho; have n0_ := Aside0.mk (Kd.V_afterv (ok := (fun k_ => (P1_1_ k_ ∨ w.heap.size ≤ k_) ∧ k_ ≠ gb479)) (by (with_reducible repeat (first | apply Kd.V_alloc | apply Kd.V_drewN | apply Kd.V_drew)); exact Kd.V_mono HO_25.out (fun _ hk => ⟨⟨hk.1, hk.2.2⟩, hk.2.1⟩)) hg hat); have n1_ := Aside0.mk (ZT (bq_ BK479.out) hg (Kd.N_ne HO_5.out BK479.out (by decide))); have n2_ := Aside0.mk (Kd.V_afterv (ok := (fun k_ => (P1_1_ k_ ∨ w.heap.size ≤ k_) ∧ k_ ≠ gb479)) (by (with_reducible repeat (first | apply Kd.V_alloc | apply Kd.V_drewN | apply Kd.V_drew)); exact Kd.V_mono HL486_0.out (fun _ hk => ⟨⟨hk.1, hk.2.2⟩, hk.2.1⟩)) hg hat); have n3_ := Aside0.mk (hb); have n4_ := Aside0.mk (ho); clear HO_25; clear BK479; clear HL486_0; clear HB; clear HO_5; have HO_25 := n0_; have BK479 := n1_; have HL486_0 := n2_; have HB := n3_; have HO491 := n4_; clear n0_ n1_ n2_ n3_ n4_; clear ho hb hg hat)); try go_wp2_with (first | ((with_reducible refine gate_builtin (b := .append) (xs := #[.tmp 45, .tmp 47]) rfl ?_); at_builtin; refine Kd.N_append (Kd.slice 3 (Kd.int .i64)) (w0 := w) w.heap.size rfl (.tmp 45) (.tmp 47) 22 31 (.slice none 0 0) 24 rfl Try.underlying22 info31 rfl (by decide) (by omega) u5 x5_2 (rd_L2 l1_1 x27_2) [.slice (some ad487) (rd_L2 l1_1 x27_2).length c486_0] (fun k_ => (P1_1_ k_ ∨ w.heap.size ≤ k_) ∧ k_ ≠ gb479) (fun k_ => ((fun k_ => (P1_1_ k_ ∨ w.heap.size ≤ k_) ∧ k_ ≠ gb479)) k_ ∧ some k_ ≠ (u5 : Value).ownBlock) rfl rfl ?aP (fun _ hk => hk) ?aF ?aO ?aB ?aS ?aL ?_; (case aP => first | exact (Kd.FK_slice_mk (Kd.V_reads' (Kd.V_mono (ok' := (fun k_ => ((fun k_ => (P1_1_ k_ ∨ w.heap.size ≤ k_) ∧ k_ ≠ gb479)) k_ ∧ some k_ ≠ (u5 : Value).ownBlock)) (HL486_0.out) (fun k_ hk => ⟨⟨hk.1, hk.2.2⟩, hk.2.1⟩))).2.1 (Kd.V_F (Kd.V_mono (ok' := (fun k_ => ((fun k_ => (P1_1_ k_ ∨ w.heap.size ≤ k_) ∧ k_ ≠ gb479)) k_ ∧ some k_ ≠ (u5 : Value).ownBlock)) (HL486_0.out) (fun k_ hk => ⟨⟨hk.1, hk.2.2⟩, hk.2.1⟩)))) | (have q1 := Kd.V_drewN HL486_0.out nq; have q2 := Kd.V_mono (ok' := (fun k_ => ((fun k_ => (P1_1_ k_ ∨ w.heap.size ≤ k_) ∧ k_ ≠ gb479)) k_ ∧ some k_ ≠ (u5 : Value).ownBlock)) q1 (fun k_ hk => ⟨⟨hk.1, hk.2.2⟩, hk.2.1⟩); exact Kd.FK_slice_mk (Kd.V_reads' q2).2.1 (Kd.V_F q2))); (case aB => exact hB_); (case aF => exact (fun k_ hk => ⟨(.inr (Nat.le_trans (Zm hB_) hk)), Kd.freshB (bq_ BK479.out) k_ hk⟩)); (case aO => exact (rN_ HO_5.out)); (case aS => exact (Zm hB_)); (case aL => have := LMc37.out; omega); intro v490 w39 ho hb hg hat; rw [← Ny489.out] at ho; have n0_ := Aside0.mk (Kd.V_afterv (ok := (fun k_ => (P1_1_ k_ ∨ w.heap.size ≤ k_) ∧ k_ ≠ gb479)) (by (with_reducible repeat (first | apply Kd.V_alloc | apply Kd.V_drewN | apply Kd.V_drew)); exact Kd.V_mono HO_25.out (fun _ hk => ⟨⟨hk.1, hk.2.2⟩, hk.2.1⟩)) hg hat); have n1_ := Aside0.mk (ZT (bq_ BK479.out) hg (Kd.N_ne HO_5.out BK479.out (by decide))); have n2_ := Aside0.mk (Kd.V_afterv (ok := (fun k_ => (P1_1_ k_ ∨ w.heap.size ≤ k_) ∧ k_ ≠ gb479)) (by (with_reducible repeat (first | apply Kd.V_alloc | apply Kd.V_drewN | apply Kd.V_drew)); exact Kd.V_mono HL486_0.out (fun _ hk => ⟨⟨hk.1, hk.2.2⟩, hk.2.1⟩)) hg hat); have n3_ := Aside0.mk (hb); have n4_ := Aside0.mk (ho); clear HO_25; clear BK479; clear HL486_0; clear HB; clear HO_5; have HO_25 := n0_; have BK479 := n1_; have HL486_0 := n2_; have HB := n3_; have HO491 := n4_; clear n0_ n1_ n2_ n3_ n4_; clear ho hb hg hat)))
     go_roundg k2
     case measure => have := HJ2.out; have := HK2.out; omega
     case rel => exact ⟨(y489), (wrap64 (x27_2 + 1)), sm_, H', ⟨by have := HJ2.out; have := HK2.out; omega⟩, ⟨rN_ HO491.out⟩, ⟨by (with_reducible repeat (first | apply Kd.V_alloc | apply Kd.V_drewN | apply Kd.V_drew)); exact Kd.V_mono HO_25.out (fun _ hk => ⟨hk.1.1, ⟨hk.2, hk.1.2⟩⟩)⟩, ⟨bk_ BK479.out⟩, ⟨hB_⟩⟩

end Go.Proofs.Ytdlobolnajcfnaa.PFnDisputes
