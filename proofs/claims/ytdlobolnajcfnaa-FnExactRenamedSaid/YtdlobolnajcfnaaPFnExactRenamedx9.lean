-- Written by a program of this session (hooks of mine on the print): Lean checks it.
import Derived.Test.YtdlobolnajcfnaaPFnExactRenamedx0
import Derived.Test.YtdlobolnajcfnaaPFnExactRenamedx6
import Derived.Test.YtdlobolnajcfnaaPFnExactRenamedx7
import Derived.Test.YtdlobolnajcfnaaPFnExactRenamedx8
namespace Go.Proofs.Ytdlobolnajcfnaa.PFnExactRenamed
open Go.RowKit Go.Proofs.YtdlobolnajcfnaaW.PrintWords Go.Proofs.YtdlobolnajcfnaaW.PrintLast Go.Proofs.YtdlobolnajcfnaaW.PrintMore
attribute [local go_sem] max2_int min2_int max_two min_two max_three min_three max_four min_four   -- for this text's walks alone
set_option linter.unusedVariables false
set_option linter.unusedSimpArgs false

/-! ### spec_Renamed: function 52 -/
mutual
def spec_Renamed.j0 : Nat → List Int → Bool → Int → List (List Int) → Option (Int × (List (List Int)) × Bool)
 | 0, _, _, _, _ => none
 | k + 1, x1, x18, x308000, x308001 => if x18 = true then ((spec_l4Copy.f k x308000 x308001).bind fun bt310 => (some (bt310.1, bt310.2, false))) else (spec_Renamed.l0 k x1 0 x308000 x308001)
def spec_Renamed.l0 : Nat → List Int → Int → Int → List (List Int) → Option (Int × (List (List Int)) × Bool)
 | 0, _, _, _, _ => none
 | k + 1, x1, x6, x308000, x308001 => if x6 < (x1.length : Int) then (if 0 ≤ x6 then ((spec_l1In.f (rd x1 x6) 0 (wrap64 (x308000 - 1))).bind fun t315 => (if t315 = true then (if x6 ≤ (x1.length : Int) then ((spec_l4Has.f k (x1.take (x6 : Int).toNat) (rd x1 x6)).bind fun t318 => (if t318 = true then ((spec_l4Copy.f k x308000 x308001).bind fun bt319 => (some (bt319.1, bt319.2, false))) else (spec_Renamed.l0 k x1 (wrap64 (x6 + 1)) x308000 x308001))) else (none)) else ((spec_l4Copy.f k x308000 x308001).bind fun bt323 => (some (bt323.1, bt323.2, false))))) else (none)) else (spec_Renamed.l1 k x1 0 x308000 x308001 x308000 ([] : List (List Int)))
def spec_Renamed.l1 : Nat → List Int → Int → Int → List (List Int) → Int → List (List Int) → Option (Int × (List (List Int)) × Bool)
 | 0, _, _, _, _, _, _ => none
 | k + 1, x1, x8, x308000, x308001, x328000, x328001 => if x8 < (x308001.length : Int) then (if 0 ≤ x8 then (if 0 < ((rd_L1 x308001 x8).length : Int) then (if 0 ≤ (rd (rd_L1 x308001 x8) 0) then (if (rd (rd_L1 x308001 x8) 0) < (x1.length : Int) then (if 1 < ((rd_L1 x308001 x8).length : Int) then (if 0 ≤ (rd (rd_L1 x308001 x8) 1) then (if (rd (rd_L1 x308001 x8) 1) < (x1.length : Int) then ((spec_AddAttack.f k x328000 x328001 (rd x1 (rd (rd_L1 x308001 x8) 0)) (rd x1 (rd (rd_L1 x308001 x8) 1))).bind fun bt334 => (spec_Renamed.l1 k x1 (wrap64 (x8 + 1)) x308000 x308001 bt334.1 bt334.2.1)) else (none)) else (none)) else (none)) else (none)) else (none)) else (none)) else (none)) else (some (x328000, x328001, true))
end
def spec_Renamed.f (k : Nat) (a0_0 : Int) (l0_1 : List (List Int)) (l1 : List Int) : Option (Int × (List (List Int)) × Bool) := (spec_IsGraph.f k a0_0 l0_1).bind fun t309 => (if t309 = true then (spec_Renamed.j0 k l1 ((l1.length : Int) != a0_0) a0_0 l0_1) else (spec_Renamed.j0 k l1 true a0_0 l0_1))
theorem spec_Renamed.mono_l : ∀ k, (∀ y0 y1 y2 y3, LeO (spec_Renamed.j0 k y0 y1 y2 y3) (spec_Renamed.j0 (k + 1) y0 y1 y2 y3)) ∧ (∀ y0 y1 y2 y3, LeO (spec_Renamed.l0 k y0 y1 y2 y3) (spec_Renamed.l0 (k + 1) y0 y1 y2 y3)) ∧ (∀ y0 y1 y2 y3 y4 y5, LeO (spec_Renamed.l1 k y0 y1 y2 y3 y4 y5) (spec_Renamed.l1 (k + 1) y0 y1 y2 y3 y4 y5))
 | 0 => ⟨fun _ _ _ _ r h => by simp [spec_Renamed.j0] at h, fun _ _ _ _ r h => by simp [spec_Renamed.l0] at h, fun _ _ _ _ _ _ r h => by simp [spec_Renamed.l1] at h⟩
 | k + 1 => by
  obtain ⟨ih0, ih1, ih2⟩ := spec_Renamed.mono_l k
  refine ⟨?_, ?_, ?_⟩
  ·intro y0 y1 y2 y3
   unfold spec_Renamed.j0
   repeat' first
   | (with_reducible exact ih0 _ _ _ _)
   | (with_reducible exact ih1 _ _ _ _)
   | (with_reducible exact ih2 _ _ _ _ _ _)
   | (with_reducible exact spec_AddAttack.mono _ _ _ _ _)
   | (with_reducible exact spec_IsGraph.mono _ _ _)
   | (with_reducible exact spec_l4Copy.mono _ _ _)
   | (with_reducible exact spec_l4Has.mono _ _ _)
   | (with_reducible exact LeO.refl _)
   | (with_reducible exact ZE _)
   | (with_reducible refine ZH ?_ ?_)
   | (with_reducible refine ZD ?_ (fun _ => ?_))
   | exact ih0 _ _ _ _
   | exact ih1 _ _ _ _
   | exact ih2 _ _ _ _ _ _
   | exact spec_AddAttack.mono _ _ _ _ _
   | exact spec_IsGraph.mono _ _ _
   | exact spec_l4Copy.mono _ _ _
   | exact spec_l4Has.mono _ _ _
   | exact ZE _
   | refine ZH ?_ ?_
   | refine ZD ?_ (fun _ => ?_)
  ·intro y0 y1 y2 y3
   unfold spec_Renamed.l0
   repeat' first
   | (with_reducible exact ih0 _ _ _ _)
   | (with_reducible exact ih1 _ _ _ _)
   | (with_reducible exact ih2 _ _ _ _ _ _)
   | (with_reducible exact spec_AddAttack.mono _ _ _ _ _)
   | (with_reducible exact spec_IsGraph.mono _ _ _)
   | (with_reducible exact spec_l4Copy.mono _ _ _)
   | (with_reducible exact spec_l4Has.mono _ _ _)
   | (with_reducible exact LeO.refl _)
   | (with_reducible exact ZE _)
   | (with_reducible refine ZH ?_ ?_)
   | (with_reducible refine ZD ?_ (fun _ => ?_))
   | exact ih0 _ _ _ _
   | exact ih1 _ _ _ _
   | exact ih2 _ _ _ _ _ _
   | exact spec_AddAttack.mono _ _ _ _ _
   | exact spec_IsGraph.mono _ _ _
   | exact spec_l4Copy.mono _ _ _
   | exact spec_l4Has.mono _ _ _
   | exact ZE _
   | refine ZH ?_ ?_
   | refine ZD ?_ (fun _ => ?_)
  ·intro y0 y1 y2 y3 y4 y5
   unfold spec_Renamed.l1
   repeat' first
   | (with_reducible exact ih0 _ _ _ _)
   | (with_reducible exact ih1 _ _ _ _)
   | (with_reducible exact ih2 _ _ _ _ _ _)
   | (with_reducible exact spec_AddAttack.mono _ _ _ _ _)
   | (with_reducible exact spec_IsGraph.mono _ _ _)
   | (with_reducible exact spec_l4Copy.mono _ _ _)
   | (with_reducible exact spec_l4Has.mono _ _ _)
   | (with_reducible exact LeO.refl _)
   | (with_reducible exact ZE _)
   | (with_reducible refine ZH ?_ ?_)
   | (with_reducible refine ZD ?_ (fun _ => ?_))
   | exact ih0 _ _ _ _
   | exact ih1 _ _ _ _
   | exact ih2 _ _ _ _ _ _
   | exact spec_AddAttack.mono _ _ _ _ _
   | exact spec_IsGraph.mono _ _ _
   | exact spec_l4Copy.mono _ _ _
   | exact spec_l4Has.mono _ _ _
   | exact ZE _
   | refine ZH ?_ ?_
   | refine ZD ?_ (fun _ => ?_)
theorem spec_Renamed.mono : ∀ a0 a1 a2 k, LeO (spec_Renamed.f k a0 a1 a2) (spec_Renamed.f (k + 1) a0 a1 a2) := by
 intro a0 a1 a2 k
 obtain ⟨ih0, ih1, ih2⟩ := spec_Renamed.mono_l k
 unfold spec_Renamed.f
 repeat' first
   | (with_reducible exact ih0 _ _ _ _)
   | (with_reducible exact ih1 _ _ _ _)
   | (with_reducible exact ih2 _ _ _ _ _ _)
   | (with_reducible exact spec_AddAttack.mono _ _ _ _ _)
   | (with_reducible exact spec_IsGraph.mono _ _ _)
   | (with_reducible exact spec_l4Copy.mono _ _ _)
   | (with_reducible exact spec_l4Has.mono _ _ _)
   | (with_reducible exact LeO.refl _)
   | (with_reducible exact ZE _)
   | (with_reducible refine ZH ?_ ?_)
   | (with_reducible refine ZD ?_ (fun _ => ?_))
   | exact ih0 _ _ _ _
   | exact ih1 _ _ _ _
   | exact ih2 _ _ _ _ _ _
   | exact spec_AddAttack.mono _ _ _ _ _
   | exact spec_IsGraph.mono _ _ _
   | exact spec_l4Copy.mono _ _ _
   | exact spec_l4Has.mono _ _ _
   | exact ZE _
   | refine ZH ?_ ?_
   | refine ZD ?_ (fun _ => ?_)
def spec_Renamed.T6 : Bool × List (List Nat × List Nat) := (true, [([], []), ([], []), ([0, 1], [0, 1]), ([2], [2]), ([], []), ([4], [4]), ([5], [5]), ([3, 6], [3, 6]), ([7], [7]), ([8, 7], [8]), ([9], [9]), ([9], [9]), ([10, 11, 9], [9, 10, 11]), ([9], [9]), ([9], [9]), ([13, 14, 9], [9, 13, 14]), ([15, 9], [9, 15]), ([12, 16, 9, 9], [9, 12, 16]), ([9, 17], [9, 17])])
def spec_Renamed.B6 : List Nat := [0, 0, 3, 7, 0, 16, 48, 127, 255, 511, 1023, 1023, 4095, 1023, 1023, 25599, 58367, 131071, 262143]
theorem spec_Renamed.tab6 : rtab .any (opsOf Try.f52 6) = spec_Renamed.T6 := by kernel_rfl
theorem spec_Renamed.bits6 : waitsOk spec_Renamed.T6.2 spec_Renamed.B6 = true := by kernel_rfl
def spec_Renamed.T12 : Bool × List (List Nat × List Nat) := (true, [([], []), ([], []), ([], []), ([2], [2]), ([], []), ([3, 4], [3, 4]), ([5], [5]), ([6], [6]), ([7], [7]), ([1, 8], [1, 8]), ([9], [9]), ([], []), ([], []), ([12], [12]), ([], []), ([13, 14], [13, 14]), ([15], [15]), ([16], [16]), ([17], [17]), ([11, 18], [11, 18]), ([19], [19]), ([0, 10, 20], [0, 10, 20]), ([21], [21]), ([22], [22]), ([22], [22]), ([23, 21, 0, 1, 2, 3, 4, 5, 6, 7, 8, 9, 10, 11, 12, 13, 14, 15, 16, 17, 18, 19, 20, 21, 22, 23], [23])])
def spec_Renamed.B12 : List Nat := [0, 0, 0, 4, 0, 28, 60, 124, 252, 510, 1022, 0, 0, 4096, 0, 28672, 61440, 126976, 258048, 522240, 1046528, 2097151, 4194303, 8388607, 8388607, 16777215]
theorem spec_Renamed.tab12 : rtab .any (opsOf Try.f52 12) = spec_Renamed.T12 := by kernel_rfl
theorem spec_Renamed.bits12 : waitsOk spec_Renamed.T12.2 spec_Renamed.B12 = true := by kernel_rfl
set_option maxHeartbeats 8000000 in
set_option maxRecDepth 100000 in
theorem spec_Renamed.calls (k : Nat) (a0_0 : Int) (A0_1 : Option Addr) (c0_1 : Nat) (l0_1 : List (List Int)) (A1 : Option Addr) (c1 : Nat) (l1 : List Int) (r1 : Int) (r2 : List (List Int)) (r3 : Bool) (w : World) (hr0_1 : Kd.C (Kd.slice 3 (Kd.int .i64)) w A0_1 l0_1.length l0_1) (hc0_1 : l0_1.length ≤ c0_1) (hr1 : Kd.C (Kd.int .i64) w A1 l1.length l1) (hc1 : l1.length ≤ c1) (h : spec_Renamed.f k a0_0 l0_1 l1 = some (r1, r2, r3)) :
  Calls Try.prog 52 #[.agg #[.int .i64 a0_0, .slice A0_1 l0_1.length c0_1], .slice A1 l1.length c1] w fun e w' => ∃ v1_ : Value, e = .returned (.tuple #[.agg #[.int .i64 r1, v1_], .bool r3]) ∧ Kd.S (Kd.slice 3 (Kd.int .i64)) 31 w' w.heap.size (fun _ => True) v1_ r2 ∧ Below w.heap.size w w' := by
 have hu27 := Try.underlying27
 have HR0_1 := Aside0.mk hr0_1
 have HC0_1 := Aside0.mk hc0_1
 clear hr0_1 hc0_1
 have HR1 := Aside0.mk hr1
 have HC1 := Aside0.mk hc1
 clear hr1 hc1
 have HB := Aside0.mk (Below.refl w.heap.size w)
 have H : ((spec_IsGraph.f k a0_0 l0_1).bind fun t309 => (if t309 = true then (spec_Renamed.j0 k l1 ((l1.length : Int) != a0_0) a0_0 l0_1) else (spec_Renamed.j0 k l1 true a0_0 l0_1))) = some (r1, r2, r3) := h
 clear h
 have HC3 := Aside0.mk H
 clear H
 go_enter Try.func52, Try.ntmps52
 go_upto_region 1 with (first | ((with_reducible refine gate_dst (N := 2) rfl ?_); (try (refine gate_guard (by rfl) ?_; dsimp only)); refine box_event ?hg (N := 2) ?hd (cs := #[.int .i64 a0_0, .slice A0_1 l0_1.length c0_1]) (t := 27) ?hr ?_; (case hd => rfl); (case hg => rfl); (case hr => first | (go_simp; done) | (go_simp; rfl)); intro gb307 hg w4 hbox hb; have n0_ := Aside0.mk (Zu (by repeat (first | (with_reducible first | exact HB.out | apply Zj | apply Ze | apply Zi) | exact HB.out)) hb); have n1_ := Aside0.mk (hbox); have n2_ := Aside0.mk ((by rw [hg]; exact (Zs (by repeat (first | (with_reducible first | exact HB.out | apply Zj | apply Ze | apply Zi) | exact HB.out))) : w.heap.size ≤ gb307)); have n3_ := Aside0.mk ((by rw [hg]; exact (Zs (by repeat (first | (with_reducible first | exact HB.out | apply Zj | apply Ze | apply Zi) | exact HB.out))) : w.heap.size ≤ gb307)); clear HB; have HB := n0_; have BK307 := n1_; have GW307 := n2_; have GE307 := n3_; clear n0_ n1_ n2_ n3_; clear hb hbox hg) | ((with_reducible refine gate_dst (N := 4) rfl ?_); (try (refine gate_guard (by rfl) ?_; dsimp only)); refine box_event ?hg (N := 4) ?hd (cs := #[.int .i64 0, .slice none 0 0]) (t := 27) ?hr ?_; (case hd => rfl); (case hg => rfl); (case hr => first | (go_simp; done) | (go_simp; rfl)); intro gb308 hg w5 hbox hb; have n0_ := Aside0.mk (Zp (g := gb307) (o := .cells #[.int .i64 a0_0, .slice A0_1 l0_1.length c0_1] 27 (0, 0)) (by (with_reducible repeat (first | refine Zg ?_ _ | refine Zh ?_ | refine Zf ?_ _)); exact BK307.out) hb); have n1_ := Aside0.mk (Zu (by repeat (first | (with_reducible first | exact HB.out | apply Zj | apply Ze | apply Zi | refine Zd ?_ GE307.out) | exact HB.out)) hb); have n2_ := Aside0.mk (hbox); have n3_ := Aside0.mk ((by rw [hg]; exact (Zs (by repeat (first | (with_reducible first | exact HB.out | apply Zj | apply Ze | apply Zi | refine Zd ?_ GE307.out) | exact HB.out))) : w.heap.size ≤ gb308)); have n4_ := Aside0.mk ((by rw [hg]; exact (Zs (by repeat (first | (with_reducible first | exact HB.out | apply Zj | apply Ze | apply Zi | refine Zd ?_ GE307.out) | exact HB.out))) : w.heap.size ≤ gb308)); have n5_ := Aside0.mk ((by rw [hg]; exact Nat.ne_of_lt (blk_lt (g := gb307) (o := .cells #[.int .i64 a0_0, .slice A0_1 l0_1.length c0_1] 27 (0, 0)) (by (with_reducible repeat (first | refine Zg ?_ _ | refine Zh ?_ | refine Zf ?_ _)); exact BK307.out)) : gb307 ≠ gb308)); have n6_ := Aside0.mk ((by rw [hg]; exact Nat.ne_of_gt (blk_lt (g := gb307) (o := .cells #[.int .i64 a0_0, .slice A0_1 l0_1.length c0_1] 27 (0, 0)) (by (with_reducible repeat (first | refine Zg ?_ _ | refine Zh ?_ | refine Zf ?_ _)); exact BK307.out)) : gb308 ≠ gb307)); clear BK307; clear HB; have BK307 := n0_; have HB := n1_; have BK308 := n2_; have GW308 := n3_; have GE308 := n4_; have NB307_308 := n5_; have NB308_307 := n6_; clear n0_ n1_ n2_ n3_ n4_ n5_ n6_; clear hb hbox hg))
 (try simp only [Act.put, Za, Zb, Zc])
 go_cut [18] (fun v18 wc => ∃ (kq : Nat) (x18_2 : Bool), v18 = .bool x18_2 ∧ Aside0 (spec_Renamed.j0 kq l1 x18_2 a0_0 l0_1 = some (r1, r2, r3)) ∧ Aside0 (kq ≤ k) ∧ Aside0 (wc.heap[gb307]? = some (.cells #[.int .i64 a0_0, (.slice A0_1 l0_1.length c0_1)] 27 (0, 0))) ∧ Aside0 (wc.heap[gb308]? = some (.cells #[.int .i64 0, (.slice none 0 0)] 27 (0, 0))) ∧ Aside0 (Below w.heap.size w wc))
 case first =>
  have H := HC3.out
  clear HC3
  replace H := Option.bind_eq_some_iff.mp H
  obtain ⟨t309, A60, H⟩ := H
  replace H : (if t309 = true then (spec_Renamed.j0 k l1 ((l1.length : Int) != a0_0) a0_0 l0_1) else (spec_Renamed.j0 k l1 true a0_0 l0_1)) = some (r1, r2, r3) := H
  have A6 := Aside0.mk A60
  clear A60
  by_cases c7 : t309 = true
  ·subst c7
   have H1 : (spec_Renamed.j0 k l1 ((l1.length : Int) != a0_0) a0_0 l0_1) = some (r1, r2, r3) := by rw [if_pos rfl] at H; exact H
   clear H
   have H := H1
   clear H1
   have H' := Aside0.mk H
   clear H
   have hnb8 := NB307_308.out
   have hnc8 := NB308_307.out
   have hcz9_0 : w5.cell? ⟨gb307, 0, none⟩ = some (.int .i64 a0_0) := (Zk BK307.out 0).trans rfl
   have hcz9_1 : w5.cell? ⟨gb307, 1, none⟩ = some (.slice A0_1 l0_1.length c0_1) := (Zk BK307.out 1).trans rfl
   have hfz9_0 := Zl BK307.out 0
   have hfz9_1 := Zl BK307.out 1
   go_wp2_with (first | ((with_reducible refine ZA (f := 57) rfl ?_); refine goesL_ (some 10) rfl rfl Try.func57 (by kernel_rfl) rfl #[.agg #[.int .i64 a0_0, .slice A0_1 l0_1.length c0_1]] rfl (by (try simp only [List.map_toArray, List.map_cons, List.map_nil]); first | done | rfl | (simp only [List.length_drop, List.length_take]; rfl)) ?_; (with_reducible refine (spec_IsGraph.calls k a0_0 _ _ l0_1 true _ ?side1 ?side2 A6.out).mono ?_); (case side1 => repeat (first | exact (ZG HR0_1.out HB.out) | (with_reducible refine Zw ?_ _) | (with_reducible refine Zv ?_ _) | (with_reducible refine Zz ?_))); (case side2 => exact HC0_1.out); rintro e w10 ⟨rfl, hb⟩; refine ⟨_, rfl, ?_⟩; have n0_ := Aside0.mk (Zp (g := gb307) (o := .cells #[.int .i64 a0_0, .slice A0_1 l0_1.length c0_1] 27 (0, 0)) (by (with_reducible repeat (first | refine Zg ?_ _ | refine Zh ?_ | refine Zf ?_ _)); exact BK307.out) hb); have n1_ := Aside0.mk (Zp (g := gb308) (o := .cells #[.int .i64 0, .slice none 0 0] 27 (0, 0)) (by (with_reducible repeat (first | refine Zg ?_ _ | refine Zh ?_ | refine Zf ?_ _)); exact BK308.out) hb); have n2_ := Aside0.mk (Zu (by repeat (first | (with_reducible first | exact HB.out | apply Zj | apply Ze | apply Zi | refine Zd ?_ GE307.out | refine Zd ?_ GE308.out) | exact HB.out)) hb); clear BK307; clear BK308; clear HB; have BK307 := n0_; have BK308 := n1_; have HB := n2_; clear n0_ n1_ n2_; (try clear hb); (try clear hb2); (try clear hk); (try clear hi); have hcz11_0 : w10.cell? ⟨gb307, 0, none⟩ = some (.int .i64 a0_0) := (Zk BK307.out 0).trans rfl; have hcz11_1 : w10.cell? ⟨gb307, 1, none⟩ = some (.slice A0_1 l0_1.length c0_1) := (Zk BK307.out 1).trans rfl; have hfz11_0 := Zl BK307.out 0; have hfz11_1 := Zl BK307.out 1))
   go_meet
   case rel => exact ⟨_, (((l1.length : Int) != a0_0)), (by first | rfl | (simp; done) | (simp [*]; done)), H', ⟨by first | omega | exact Nat.le_refl _⟩, ⟨by (with_reducible repeat (first | refine Zg ?_ _ | refine Zh ?_ | refine Zf ?_ _)); exact BK307.out⟩, ⟨by (with_reducible repeat (first | refine Zg ?_ _ | refine Zh ?_ | refine Zf ?_ _)); exact BK308.out⟩, ⟨by repeat (first | (with_reducible first | exact HB.out | apply Zj | apply Ze | apply Zi | refine Zd ?_ GE307.out | refine Zd ?_ GE308.out) | exact HB.out)⟩⟩
  ·replace c7 := Bool.eq_false_iff.mpr c7
   subst c7
   have H1 : (spec_Renamed.j0 k l1 true a0_0 l0_1) = some (r1, r2, r3) := by rw [if_neg (show ¬ (false = true) by decide)] at H; exact H
   clear H
   have H := H1
   clear H1
   have H' := Aside0.mk H
   clear H
   have hnb12 := NB307_308.out
   have hnc12 := NB308_307.out
   have hcz13_0 : w5.cell? ⟨gb307, 0, none⟩ = some (.int .i64 a0_0) := (Zk BK307.out 0).trans rfl
   have hcz13_1 : w5.cell? ⟨gb307, 1, none⟩ = some (.slice A0_1 l0_1.length c0_1) := (Zk BK307.out 1).trans rfl
   have hfz13_0 := Zl BK307.out 0
   have hfz13_1 := Zl BK307.out 1
   go_wp2_with (first | ((with_reducible refine ZA (f := 57) rfl ?_); refine goesL_ (some 10) rfl rfl Try.func57 (by kernel_rfl) rfl #[.agg #[.int .i64 a0_0, .slice A0_1 l0_1.length c0_1]] rfl (by (try simp only [List.map_toArray, List.map_cons, List.map_nil]); first | done | rfl | (simp only [List.length_drop, List.length_take]; rfl)) ?_; (with_reducible refine (spec_IsGraph.calls k a0_0 _ _ l0_1 false _ ?side1 ?side2 A6.out).mono ?_); (case side1 => repeat (first | exact (ZG HR0_1.out HB.out) | (with_reducible refine Zw ?_ _) | (with_reducible refine Zv ?_ _) | (with_reducible refine Zz ?_))); (case side2 => exact HC0_1.out); rintro e w14 ⟨rfl, hb⟩; refine ⟨_, rfl, ?_⟩; have n0_ := Aside0.mk (Zp (g := gb307) (o := .cells #[.int .i64 a0_0, .slice A0_1 l0_1.length c0_1] 27 (0, 0)) (by (with_reducible repeat (first | refine Zg ?_ _ | refine Zh ?_ | refine Zf ?_ _)); exact BK307.out) hb); have n1_ := Aside0.mk (Zp (g := gb308) (o := .cells #[.int .i64 0, .slice none 0 0] 27 (0, 0)) (by (with_reducible repeat (first | refine Zg ?_ _ | refine Zh ?_ | refine Zf ?_ _)); exact BK308.out) hb); have n2_ := Aside0.mk (Zu (by repeat (first | (with_reducible first | exact HB.out | apply Zj | apply Ze | apply Zi | refine Zd ?_ GE307.out | refine Zd ?_ GE308.out) | exact HB.out)) hb); clear BK307; clear BK308; clear HB; have BK307 := n0_; have BK308 := n1_; have HB := n2_; clear n0_ n1_ n2_; (try clear hb); (try clear hb2); (try clear hk); (try clear hi)))
   go_meet
   case rel => exact ⟨_, (true), (by first | rfl | (simp; done) | (simp [*]; done)), H', ⟨by first | omega | exact Nat.le_refl _⟩, ⟨by (with_reducible repeat (first | refine Zg ?_ _ | refine Zh ?_ | refine Zf ?_ _)); exact BK307.out⟩, ⟨by (with_reducible repeat (first | refine Zg ?_ _ | refine Zh ?_ | refine Zf ?_ _)); exact BK308.out⟩, ⟨by repeat (first | (with_reducible first | exact HB.out | apply Zj | apply Ze | apply Zi | refine Zd ?_ GE307.out | refine Zd ?_ GE308.out) | exact HB.out)⟩⟩
 case rest =>
  clear HC3
  try clear c1
  try clear p2
  try clear c5
  try clear c7
  try clear c8
  try clear c12
  try clear hcz11_0
  try clear hcz11_1
  try clear hcz13_0
  try clear hcz13_1
  try clear hcz9_0
  try clear hcz9_1
  try clear hfz11_0
  try clear hfz11_1
  try clear hfz13_0
  try clear hfz13_1
  try clear hfz9_0
  try clear hfz9_1
  obtain ⟨kq, x18_2, rfl, HA, HJ2, BK307, BK308, HB⟩ := hcut
  cases kq with
  | zero => exact absurd HA.out (by simp [spec_Renamed.j0])
  | succ kj2 =>
   have H := HA.out
   clear HA
   simp only [spec_Renamed.j0] at H
   by_cases c15 : x18_2 = true
   ·subst c15
    have H1 : ((spec_l4Copy.f kj2 a0_0 l0_1).bind fun bt310 => (some (bt310.1, bt310.2, false))) = some (r1, r2, r3) := by rw [if_pos rfl] at H; exact H
    clear H
    have H := H1
    clear H1
    replace H := Option.bind_eq_some_iff.mp H
    obtain ⟨⟨t310, t311⟩, A160, H⟩ := H
    replace H : (some (t310, t311, false)) = some (r1, r2, r3) := H
    have A16 := Aside0.mk A160
    clear A160
    simp only [Option.some.injEq, Prod.mk.injEq] at H
    obtain ⟨rfl, rfl, rfl⟩ := H
    have hnb17 := NB307_308.out
    have hnc17 := NB308_307.out
    have hcz18_0 : wc.cell? ⟨gb307, 0, none⟩ = some (.int .i64 a0_0) := (Zk BK307.out 0).trans rfl
    have hcz18_1 : wc.cell? ⟨gb307, 1, none⟩ = some (.slice A0_1 l0_1.length c0_1) := (Zk BK307.out 1).trans rfl
    have hfz18_0 := Zl BK307.out 0
    have hfz18_1 := Zl BK307.out 1
    go_wp2_with (first | ((with_reducible refine ZA (f := 92) rfl ?_); refine goesL_ (some 20) rfl rfl Try.func92 (by kernel_rfl) rfl #[.agg #[.int .i64 a0_0, .slice A0_1 l0_1.length c0_1]] rfl (by (try simp only [List.map_toArray, List.map_cons, List.map_nil]); first | done | rfl | (simp only [List.length_drop, List.length_take]; rfl)) ?_; (with_reducible refine (spec_l4Copy.calls kj2 a0_0 _ _ l0_1 t310 t311 _ ?side1 ?side2 A16.out).mono ?_); (case side1 => repeat (first | exact (ZG HR0_1.out HB.out) | (with_reducible refine Zw ?_ _) | (with_reducible refine Zv ?_ _) | (with_reducible refine Zz ?_))); (case side2 => exact HC0_1.out); rintro e w19 ⟨v312, rfl, ho0, hb⟩; refine ⟨_, rfl, ?_⟩; have n0_ := Aside0.mk (Kd.S_lower ho0 (Zs (by repeat (first | (with_reducible first | exact HB.out | apply Zj | apply Ze | apply Zi | refine Zd ?_ GE307.out | refine Zd ?_ GE308.out) | exact HB.out)))); have n1_ := Aside0.mk (Zp (g := gb307) (o := .cells #[.int .i64 a0_0, .slice A0_1 l0_1.length c0_1] 27 (0, 0)) (by (with_reducible repeat (first | refine Zg ?_ _ | refine Zh ?_ | refine Zf ?_ _)); exact BK307.out) hb); have n2_ := Aside0.mk (Zp (g := gb308) (o := .cells #[.int .i64 0, .slice none 0 0] 27 (0, 0)) (by (with_reducible repeat (first | refine Zg ?_ _ | refine Zh ?_ | refine Zf ?_ _)); exact BK308.out) hb); have n3_ := Aside0.mk (Zu (by repeat (first | (with_reducible first | exact HB.out | apply Zj | apply Ze | apply Zi | refine Zd ?_ GE307.out | refine Zd ?_ GE308.out) | exact HB.out)) hb); clear BK307; clear BK308; clear HB; have HO313 := n0_; have BK307 := n1_; have BK308 := n2_; have HB := n3_; clear n0_ n1_ n2_ n3_; (try clear hb); (try clear hb2); (try clear hk); (try clear hi); (try clear ho0); have hcz20_0 : w19.cell? ⟨gb308, 0, none⟩ = some (.int .i64 0) := (Zk BK308.out 0).trans rfl; have hcz20_1 : w19.cell? ⟨gb308, 1, none⟩ = some (.slice none 0 0) := (Zk BK308.out 1).trans rfl; have hfz20_0 := Zl BK308.out 0; have hfz20_1 := Zl BK308.out 1; obtain ⟨Ao21, co21, eo21⟩ := Kd.S_slice HO313.out; subst eo21))
    refine bodyPost_ret (results_ct rfl _ _ gb308 27 #[.int .i64 t310, .slice Ao21 t311.length co21] (0, 0) _ rfl (by (with_reducible repeat (first | refine Zg ?_ _ | refine Zh ?_ | refine Zf ?_ _)); refine blk_put (cs := #[.int .i64 t310, .slice none 0 0]) ?_ 1 _ rfl; (with_reducible repeat (first | refine Zg ?_ _ | refine Zh ?_ | refine Zf ?_ _)); refine blk_put (cs := #[.int .i64 0, .slice none 0 0]) ?_ 0 _ rfl; (with_reducible repeat (first | refine Zg ?_ _ | refine Zh ?_ | refine Zf ?_ _)); exact BK308.out) Try.underlying27 rfl (by kernel_rfl)) rfl ?_
    exact ⟨_, by first | rfl | (simp [errW_none, errW_some] <;> rfl) | (simp [*, errW_none, errW_some] <;> rfl), by (with_reducible repeat (first | apply Zn | apply Zm | apply Zo)); exact Zy (ZB (p := ⟨gb308, 1, none⟩) (ZB (p := ⟨gb308, 0, none⟩) (ZJ HO313.out BK308.out (by decide)) (fun _ hk => hk.2) (.int .i64 t310)) (fun _ hk => hk.2) (.slice Ao21 t311.length co21)) (fun _ hk => trivial), by repeat (first | (with_reducible first | exact HB.out | apply Zj | apply Ze | apply Zi | refine Zd ?_ GE307.out | refine Zd ?_ GE308.out) | exact HB.out)⟩
   ·replace c15 := Bool.eq_false_iff.mpr c15
    subst c15
    have H1 : (spec_Renamed.l0 kj2 l1 0 a0_0 l0_1) = some (r1, r2, r3) := by rw [if_neg (show ¬ (false = true) by decide)] at H; exact H
    clear H
    have H := H1
    clear H1
    have H' := Aside0.mk H
    clear H
    go_wp2
    go_loopg [6] kj2 (fun kq v6 w' => ∃ (x6_2 : Int) (x309000_2 : Int), v6 = .int .i64 x6_2 ∧ Aside0 (spec_Renamed.l0 kq l1 x6_2 a0_0 l0_1 = some (r1, r2, r3)) ∧ Aside0 (kq ≤ kj2) ∧ Aside0 (w'.heap[gb307]? = some (.cells #[.int .i64 a0_0, (.slice A0_1 l0_1.length c0_1)] 27 (0, 0))) ∧ Aside0 (w'.heap[gb308]? = some (.cells #[.int .i64 x309000_2, (.slice none 0 0)] 27 (0, 0))) ∧ Aside0 (Below w.heap.size w w'))
    case atStart => exact ⟨(0), (0), (by first | rfl | (simp; done) | (simp [*]; done)), H', ⟨Nat.le_refl _⟩, ⟨by (with_reducible repeat (first | refine Zg ?_ _ | refine Zh ?_ | refine Zf ?_ _)); exact BK307.out⟩, ⟨by (with_reducible repeat (first | refine Zg ?_ _ | refine Zh ?_ | refine Zf ?_ _)); exact BK308.out⟩, ⟨by repeat (first | (with_reducible first | exact HB.out | apply Zj | apply Ze | apply Zi | refine Zd ?_ GE307.out | refine Zd ?_ GE308.out) | exact HB.out)⟩⟩
    case round =>
     clear H'
     try clear c1
     try clear p2
     try clear c5
     try clear c7
     try clear c8
     try clear c9
     try clear c12
     try clear c15
     try clear c17
     try clear hcz11_0
     try clear hcz11_1
     try clear hcz13_0
     try clear hcz13_1
     try clear hcz18_0
     try clear hcz18_1
     try clear hcz20_0
     try clear hcz20_1
     try clear hcz9_0
     try clear hcz9_1
     try clear hfz11_0
     try clear hfz11_1
     try clear hfz13_0
     try clear hfz13_1
     try clear hfz18_0
     try clear hfz18_1
     try clear hfz20_0
     try clear hfz20_1
     try clear hfz9_0
     try clear hfz9_1
     try clear p2
     obtain ⟨x6_2, x309000_2, rfl, HA, HK2, BK307, BK308, HB⟩ := hrel
     cases gk with
     | zero => exact absurd HA.out (by simp [spec_Renamed.l0])
     | succ k2 =>
      have H := HA.out
      clear HA
      simp only [spec_Renamed.l0] at H
      by_cases c22 : x6_2 < (l1.length : Int)
      ·rw [if_pos c22] at H
       have c22b0 : decide (x6_2 < (l1.length : Int)) = true := decide_eq_true c22
       clear c22
       by_cases c23 : 0 ≤ x6_2
       ·rw [if_pos c23] at H
        have c23b0 : decide (0 ≤ x6_2) = true := decide_eq_true c23
        clear c23
        replace H := Option.bind_eq_some_iff.mp H
        obtain ⟨t315, A240, H⟩ := H
        replace H : (if t315 = true then (if x6_2 ≤ (l1.length : Int) then ((spec_l4Has.f k2 (l1.take (x6_2 : Int).toNat) (rd l1 x6_2)).bind fun t318 => (if t318 = true then ((spec_l4Copy.f k2 a0_0 l0_1).bind fun bt319 => (some (bt319.1, bt319.2, false))) else (spec_Renamed.l0 k2 l1 (wrap64 (x6_2 + 1)) a0_0 l0_1))) else (none)) else ((spec_l4Copy.f k2 a0_0 l0_1).bind fun bt323 => (some (bt323.1, bt323.2, false)))) = some (r1, r2, r3) := H
        have A24 := Aside0.mk A240
        clear A240
        by_cases c25 : t315 = true
        ·subst c25
         have H1 : (if x6_2 ≤ (l1.length : Int) then ((spec_l4Has.f k2 (l1.take (x6_2 : Int).toNat) (rd l1 x6_2)).bind fun t318 => (if t318 = true then ((spec_l4Copy.f k2 a0_0 l0_1).bind fun bt319 => (some (bt319.1, bt319.2, false))) else (spec_Renamed.l0 k2 l1 (wrap64 (x6_2 + 1)) a0_0 l0_1))) else (none)) = some (r1, r2, r3) := by rw [if_pos rfl] at H; exact H
         clear H
         have H := H1
         clear H1
         have c26b0 := eq_true (of_decide_eq_true (by first | (with_reducible assumption) | assumption) : 0 ≤ x6_2)
         by_cases c27 : x6_2 ≤ (l1.length : Int)
         ·rw [if_pos c27] at H
          have c27b0 := eq_true c27
          have c27b1 : decide (x6_2 ≤ (l1.length : Int)) = true := decide_eq_true c27
          clear c27
          replace H := Option.bind_eq_some_iff.mp H
          obtain ⟨t318, A280, H⟩ := H
          replace H : (if t318 = true then ((spec_l4Copy.f k2 a0_0 l0_1).bind fun bt319 => (some (bt319.1, bt319.2, false))) else (spec_Renamed.l0 k2 l1 (wrap64 (x6_2 + 1)) a0_0 l0_1)) = some (r1, r2, r3) := H
          have A28 := Aside0.mk A280
          clear A280
          by_cases c29 : t318 = true
          ·subst c29
           have H1 : ((spec_l4Copy.f k2 a0_0 l0_1).bind fun bt319 => (some (bt319.1, bt319.2, false))) = some (r1, r2, r3) := by rw [if_pos rfl] at H; exact H
           clear H
           have H := H1
           clear H1
           replace H := Option.bind_eq_some_iff.mp H
           obtain ⟨⟨t319, t320⟩, A300, H⟩ := H
           replace H : (some (t319, t320, false)) = some (r1, r2, r3) := H
           have A30 := Aside0.mk A300
           clear A300
           simp only [Option.some.injEq, Prod.mk.injEq] at H
           obtain ⟨rfl, rfl, rfl⟩ := H
           try go_wp2
           have n0_ := Aside0.mk (Zh BK307.out)
           have n1_ := Aside0.mk (Zh BK308.out)
           have n2_ := Aside0.mk (Zi HB.out)
           clear BK307
           clear BK308
           clear HB
           have BK307 := n0_
           have BK308 := n1_
           have HB := n2_
           clear n0_ n1_ n2_
           have p314 : 0 ≤ (x6_2 : Int) := of_decide_eq_true (by first | (with_reducible assumption) | assumption)
           have q314 : x6_2 < (l1.length : Int) := of_decide_eq_true (by first | (with_reducible assumption) | assumption)
           obtain ⟨ad314, e314, hx314_0⟩ := ZI HR1.out x6_2 p314 q314
           have hw314_0 := hx314_0
           cases e314
           replace hx314_0 := (HB.out.cell (World.block_lt_of_cell? w _ hx314_0)).trans hx314_0
           replace p314 := eq_true p314
           replace q314 := eq_true q314
           have p317 : 0 ≤ (x6_2 : Int) := of_decide_eq_true (by first | (with_reducible assumption) | assumption)
           have q317 : x6_2 < (l1.length : Int) := of_decide_eq_true (by first | (with_reducible assumption) | assumption)
           obtain ⟨ad317, e317, hx317_0⟩ := ZI HR1.out x6_2 p317 q317
           have hw317_0 := hx317_0
           obtain rfl : ad314 = ad317 := (by injection e317)
           replace hx317_0 := (HB.out.cell (World.block_lt_of_cell? w _ hx317_0)).trans hx317_0
           replace p317 := eq_true p317
           replace q317 := eq_true q317
           refine start_ (n := 19) (S := fun w' => w'.cell? ⟨gb307, 0, none⟩ = some (.int .i64 a0_0) ∧ w'.cell? ⟨gb307, 1, none⟩ = some (.slice A0_1 l0_1.length c0_1) ∧ w'.cell? (ad314.add (x6_2).toNat) = some (.int .i64 (rd l1 x6_2)) ∧ w'.cell? (ad314.add (x6_2).toNat) = some (.int .i64 (rd l1 x6_2))) (ds := []) #[O,O,O,O,O,O,O,O,O,O,O,O,O,O,O,O,O,O,O] (by kernel_rfl) rfl rfl ⟨(Zk BK307.out 0).trans rfl, (Zk BK307.out 1).trans rfl, ((HB.out.cell (World.block_lt_of_cell? w _ hw314_0)).trans hw314_0), ((HB.out.cell (World.block_lt_of_cell? w _ hw317_0)).trans hw317_0)⟩ (fun hHeld => ?_); refine with_tabW spec_Renamed.tab6 spec_Renamed.bits6 (fun HT_ HW_ => ?_)
           generalize wr.drew = w31 at BK307 BK308 HB hx314_0 hx317_0 hHeld ⊢
           refine Zx (i := 0) (N := some 27) (v := ?_) (a' := ?_) #[Y,O,O,O,O,O,O,O,O,O,O,O,O,O,O,O,O,O,O] rfl rfl (Zt HT_.out (by kernel_rfl)) (fun _ _ _ h => h) (Or.inl ⟨by rfl, ?_⟩) ?_ ?_
           rotate_left
           ·intro w'
            go_simp
            with_reducible rfl
           rotate_left
           ·simp only [Act.put, Za, Zb, Zc, Zq, Zr]
            rfl
           refine Zx (i := 1) (N := some 28) (v := ?_) (a' := ?_) #[Y,Y,O,O,O,O,O,O,O,O,O,O,O,O,O,O,O,O,O] rfl rfl (Zt HT_.out (by kernel_rfl)) (fun _ _ _ h => h) (Or.inl ⟨by rfl, ?_⟩) ?_ ?_
           rotate_left
           ·intro w'
            go_simp
            with_reducible rfl
           rotate_left
           ·simp only [Act.put, Za, Zb, Zc, Zq, Zr]
            rfl
           refine Zx (i := 2) (N := some 29) (v := ?_) (a' := ?_) #[Y,Y,Y,O,O,O,O,O,O,O,O,O,O,O,O,O,O,O,O] rfl rfl (Zt HT_.out (by kernel_rfl)) (fun _ _ _ h => h) (Or.inl ⟨by rfl, ?_⟩) ?_ ?_
           rotate_left
           ·intro w'
            go_simp
            with_reducible rfl
           rotate_left
           ·simp only [Act.put, Za, Zb, Zc, Zq, Zr]
            rfl
           refine Zx (i := 4) (N := some 31) (v := ?_) (a' := ?_) #[Y,Y,Y,O,Y,O,O,O,O,O,O,O,O,O,O,O,O,O,O] rfl rfl (Zt HT_.out (by kernel_rfl)) (fun _ _ _ h => h) (Or.inl ⟨by rfl, ?_⟩) ?_ ?_
           rotate_left
           ·intro w'
            go_simp
            with_reducible rfl
           rotate_left
           ·simp only [Act.put, Za, Zb, Zc, Zq, Zr]
            rfl
           refine take_ (i := 3) (N := some 30) (v := ?_) (a' := ?_) #[Y,Y,Y,Y,Y,O,O,O,O,O,O,O,O,O,O,O,O,O,O] rfl rfl (take_ofW HT_.out HW_.out (by kernel_rfl)) (fun _ _ _ h => h) (Or.inl ⟨by rfl, ?_⟩) hHeld ?_ ?_
           rotate_left
           ·rintro w' ⟨s0, s1, s2, s3⟩
            go_simp
            with_reducible rfl
           rotate_left
           ·simp only [Act.put, Za, Zb, Zc, Zq, Zr]
            rfl
           refine take_ (i := 5) (N := some 32) (v := ?_) (a' := ?_) #[Y,Y,Y,Y,Y,Y,O,O,O,O,O,O,O,O,O,O,O,O,O] rfl rfl (take_ofW HT_.out HW_.out (by kernel_rfl)) (fun _ _ _ h => h) (Or.inl ⟨by rfl, ?_⟩) hHeld ?_ ?_
           rotate_left
           ·rintro w' ⟨s0, s1, s2, s3⟩
            go_simp
            with_reducible rfl
           rotate_left
           ·simp only [Act.put, Za, Zb, Zc, Zq, Zr]
            rfl
           refine Zx (i := 6) (N := some 33) (v := ?_) (a' := ?_) #[Y,Y,Y,Y,Y,Y,Y,O,O,O,O,O,O,O,O,O,O,O,O] rfl rfl (Zt HT_.out (by kernel_rfl)) (fun _ _ _ h => h) (Or.inl ⟨by rfl, ?_⟩) ?_ ?_
           rotate_left
           ·intro w'
            go_simp
            with_reducible rfl
           rotate_left
           ·simp only [Act.put, Za, Zb, Zc, Zq, Zr]
            rfl
           refine one_ (i := 7) (N := some 34) #[Y,Y,Y,Y,Y,Y,Y,Y,O,O,O,O,O,O,O,O,O,O,O] rfl rfl (one_of HT_.out (by kernel_rfl)) (by decide) (fun K hK => ?_)
           refine goes_ Try.func58 (by kernel_rfl) rfl #[.int .i64 (rd l1 x6_2), .int .i64 0, .int .i64 (wrap64 (a0_0 - 1))] (by rfl) rfl rfl (by (try simp only [List.map_toArray, List.map_cons, List.map_nil]); first | done | rfl | (simp only [List.length_drop, List.length_take]; rfl)) ?_
           with_reducible refine (spec_l1In.calls (rd l1 x6_2) 0 (wrap64 (a0_0 - 1)) true _ A24.out).mono ?_
           rintro e w' ⟨rfl, ⟨nd, rfl⟩⟩
           refine ⟨_, rfl, ?_⟩
           obtain ⟨i032, hi032, _, hsz32, _⟩ := info_parts info3
           obtain ⟨hcut32, hA32, hC32⟩ := print_take_of (P := Try.prog) (Value.int .i64) 0 31 3 .i64 Try.underlying31 hi032 hsz32 (some ad314) c1 l1 x6_2 (of_decide_eq_true (by first | (with_reducible assumption) | assumption)) (of_decide_eq_true (by first | (with_reducible assumption) | assumption)) HC1.out
           have HR316 := Aside0.mk (Kd.C_of_reads (h1 := fun _ => rfl) (hA32 _ (Kd.reads_of_C HR1.out)))
           have HC316 := Aside0.mk hC32
           clear hA32 hC32 hi032 hsz32
           refine hK.out _ _ ⟨(Zk BK307.out 0).trans rfl, (Zk BK307.out 1).trans rfl, ((HB.out.cell (World.block_lt_of_cell? w _ hw314_0)).trans hw314_0), ((HB.out.cell (World.block_lt_of_cell? w _ hw317_0)).trans hw317_0)⟩ (fun hHeld => ?_)
           clear hK K
           refine norm_ (a' := ?_) ?_ ?_
           rotate_left
           ·show Act.put _ (some 34) _ = _
            simp only [Act.put, Za, Zb, Zc, Zq, Zr]
            rfl
           refine Zx (i := 8) (N := some 35) (v := ?_) (a' := ?_) #[Y,Y,Y,Y,Y,Y,Y,Y,Y,O,O,O,O,O,O,O,O,O,O] rfl rfl (Zt HT_.out (by kernel_rfl)) (fun _ _ _ h => h) (Or.inl ⟨by rfl, ?_⟩) ?_ ?_
           rotate_left
           ·intro w'
            go_simp
            with_reducible rfl
           rotate_left
           ·simp only [Act.put, Za, Zb, Zc, Zq, Zr]
            rfl
           refine Zx (i := 9) (N := some 36) (v := ?_) (a' := ?_) #[Y,Y,Y,Y,Y,Y,Y,Y,Y,Y,O,O,O,O,O,O,O,O,O] rfl rfl (Zt HT_.out (by kernel_rfl)) (fun _ _ _ h => h) (Or.inl ⟨by rfl, ?_⟩) ?_ ?_
           rotate_left
           ·intro w'
            go_simp
            with_reducible rfl
           rotate_left
           ·simp only [Act.put, Za, Zb, Zc, Zq, Zr]
            rfl
           refine Zx (i := 10) (N := some 37) (v := ?_) (a' := ?_) #[Y,Y,Y,Y,Y,Y,Y,Y,Y,Y,Y,O,O,O,O,O,O,O,O] rfl rfl (Zt HT_.out (by kernel_rfl)) (fun _ _ _ h => h) (Or.inl ⟨by rfl, ?_⟩) ?_ ?_
           rotate_left
           ·intro w'
            go_simp
            with_reducible rfl
           rotate_left
           ·simp only [Act.put, Za, Zb, Zc, Zq, Zr]
            rfl
           refine Zx (i := 11) (N := some 38) (v := ?_) (a' := ?_) #[Y,Y,Y,Y,Y,Y,Y,Y,Y,Y,Y,Y,O,O,O,O,O,O,O] rfl rfl (Zt HT_.out (by kernel_rfl)) (fun _ _ _ h => h) (Or.inl ⟨by rfl, ?_⟩) ?_ ?_
           rotate_left
           ·intro w'
            go_simp
            with_reducible rfl
           rotate_left
           ·simp only [Act.put, Za, Zb, Zc, Zq, Zr]
            rfl
           refine Zx (i := 12) (N := some 39) (v := ?_) (a' := ?_) #[Y,Y,Y,Y,Y,Y,Y,Y,Y,Y,Y,Y,Y,O,O,O,O,O,O] rfl rfl (Zt HT_.out (by kernel_rfl)) (fun _ _ _ h => h) (Or.inl ⟨by rfl, ?_⟩) ?_ ?_
           rotate_left
           ·intro w'
            go_simp
            with_reducible rfl
           rotate_left
           ·simp only [Act.put, Za, Zb, Zc, Zq, Zr]
            rfl
           refine Zx (i := 13) (N := some 40) (v := ?_) (a' := ?_) #[Y,Y,Y,Y,Y,Y,Y,Y,Y,Y,Y,Y,Y,Y,O,O,O,O,O] rfl rfl (Zt HT_.out (by kernel_rfl)) (fun _ _ _ h => h) (Or.inl ⟨by rfl, ?_⟩) ?_ ?_
           rotate_left
           ·intro w'
            go_simp
            with_reducible rfl
           rotate_left
           ·simp only [Act.put, Za, Zb, Zc, Zq, Zr]
            rfl
           refine Zx (i := 14) (N := some 41) (v := ?_) (a' := ?_) #[Y,Y,Y,Y,Y,Y,Y,Y,Y,Y,Y,Y,Y,Y,Y,O,O,O,O] rfl rfl (Zt HT_.out (by kernel_rfl)) (fun _ _ _ h => h) (Or.inl ⟨by rfl, ?_⟩) ?_ ?_
           rotate_left
           ·intro w'
            go_simp
            with_reducible rfl
           rotate_left
           ·simp only [Act.put, Za, Zb, Zc, Zq, Zr]
            rfl
           refine Zx (i := 15) (N := some 42) (v := ?_) (a' := ?_) #[Y,Y,Y,Y,Y,Y,Y,Y,Y,Y,Y,Y,Y,Y,Y,Y,O,O,O] rfl rfl (Zt HT_.out (by kernel_rfl)) (fun _ _ _ h => h) (Or.inl ⟨by rfl, ?_⟩) ?_ ?_
           rotate_left
           ·intro w'
            go_simp
            with_reducible rfl
           rotate_left
           ·simp only [Act.put, Za, Zb, Zc, Zq, Zr]
            rfl
           refine take_ (i := 16) (N := some 43) (v := ?_) (a' := ?_) #[Y,Y,Y,Y,Y,Y,Y,Y,Y,Y,Y,Y,Y,Y,Y,Y,Y,O,O] rfl rfl (take_ofW HT_.out HW_.out (by kernel_rfl)) (fun _ _ _ h => h) (Or.inl ⟨by rfl, ?_⟩) hHeld ?_ ?_
           rotate_left
           ·rintro w' ⟨s0, s1, s2, s3⟩
            go_simp
            with_reducible rfl
           rotate_left
           ·simp only [Act.put, Za, Zb, Zc, Zq, Zr]
            rfl
           refine one_ (i := 17) (N := some 44) #[Y,Y,Y,Y,Y,Y,Y,Y,Y,Y,Y,Y,Y,Y,Y,Y,Y,Y,O] rfl rfl (one_of HT_.out (by kernel_rfl)) (by decide) (fun K hK => ?_)
           refine goes_ Try.func101 (by kernel_rfl) rfl #[.slice (some ad314) (l1.take (x6_2 : Int).toNat).length c1, .int .i64 (rd l1 x6_2)] (by rfl) rfl rfl (by (try simp only [List.map_toArray, List.map_cons, List.map_nil]); first | done | (rw [show (l1.take (x6_2 : Int).toNat).length = x6_2.toNat from (by rw [List.length_take]; have h_ : (x6_2 : Int) ≤ (l1.length : Int) := of_decide_eq_true (by first | (with_reducible assumption) | assumption); omega)] <;> rfl) | rfl | (simp only [List.length_drop, List.length_take]; rfl)) ?_
           with_reducible refine (spec_l4Has.calls k2 _ _ (l1.take (x6_2 : Int).toNat) (rd l1 x6_2) true _ ?side1 ?side2 A28.out).mono ?_
           (case side1 => repeat (first | exact (ZG HR316.out (by repeat (first | (with_reducible first | exact HB.out | apply Zj | apply Ze | apply Zi | refine Zd ?_ GE307.out | refine Zd ?_ GE308.out) | exact HB.out))) | (with_reducible refine Zw ?_ _) | (with_reducible refine Zv ?_ _) | (with_reducible refine Zz ?_)))
           (case side2 => exact HC316.out)
           rintro e w' ⟨rfl, ⟨nd, rfl⟩⟩
           refine ⟨_, rfl, ?_⟩
           refine hK.out _ _ ⟨(Zk BK307.out 0).trans rfl, (Zk BK307.out 1).trans rfl, ((HB.out.cell (World.block_lt_of_cell? w _ hw314_0)).trans hw314_0), ((HB.out.cell (World.block_lt_of_cell? w _ hw317_0)).trans hw317_0)⟩ (fun hHeld => ?_)
           clear hK K
           refine norm_ (a' := ?_) ?_ ?_
           rotate_left
           ·show Act.put _ (some 44) _ = _
            simp only [Act.put, Za, Zb, Zc, Zq, Zr]
            rfl
           refine Zx (i := 18) (N := some 45) (v := ?_) (a' := ?_) #[Y,Y,Y,Y,Y,Y,Y,Y,Y,Y,Y,Y,Y,Y,Y,Y,Y,Y,Y] rfl rfl (Zt HT_.out (by kernel_rfl)) (fun _ _ _ h => h) (Or.inl ⟨by rfl, ?_⟩) ?_ ?_
           rotate_left
           ·intro w'
            go_simp
            with_reducible rfl
           rotate_left
           ·simp only [Act.put, Za, Zb, Zc, Zq, Zr]
            rfl
           refine done_ (done_of HT_.out (by kernel_rfl)) ?_
           have hnb33 := NB307_308.out
           have hnc33 := NB308_307.out
           have hcz34_0 : w31.cell? ⟨gb307, 0, none⟩ = some (.int .i64 a0_0) := (Zk BK307.out 0).trans rfl
           have hcz34_1 : w31.cell? ⟨gb307, 1, none⟩ = some (.slice A0_1 l0_1.length c0_1) := (Zk BK307.out 1).trans rfl
           have hfz34_0 := Zl BK307.out 0
           have hfz34_1 := Zl BK307.out 1
           try go_wp2_with (first | ((with_reducible refine ZA (f := 92) rfl ?_); refine goesL_ (some 47) rfl rfl Try.func92 (by kernel_rfl) rfl #[.agg #[.int .i64 a0_0, .slice A0_1 l0_1.length c0_1]] rfl (by (try simp only [List.map_toArray, List.map_cons, List.map_nil]); first | done | rfl | (simp only [List.length_drop, List.length_take]; rfl)) ?_; (with_reducible refine (spec_l4Copy.calls k2 a0_0 _ _ l0_1 t319 t320 _ ?side1 ?side2 A30.out).mono ?_); (case side1 => repeat (first | exact (ZG HR0_1.out (by repeat (first | (with_reducible first | exact HB.out | apply Zj | apply Ze | apply Zi | refine Zd ?_ GE307.out | refine Zd ?_ GE308.out) | exact HB.out))) | (with_reducible refine Zw ?_ _) | (with_reducible refine Zv ?_ _) | (with_reducible refine Zz ?_))); (case side2 => exact HC0_1.out); rintro e w35 ⟨v321, rfl, ho0, hb⟩; refine ⟨_, rfl, ?_⟩; have n0_ := Aside0.mk (Kd.S_lower ho0 (Zs (by repeat (first | (with_reducible first | exact HB.out | apply Zj | apply Ze | apply Zi | refine Zd ?_ GE307.out | refine Zd ?_ GE308.out) | exact HB.out)))); have n1_ := Aside0.mk (Zp (g := gb307) (o := .cells #[.int .i64 a0_0, .slice A0_1 l0_1.length c0_1] 27 (0, 0)) (by (with_reducible repeat (first | refine Zg ?_ _ | refine Zh ?_ | refine Zf ?_ _)); exact BK307.out) hb); have n2_ := Aside0.mk (Zp (g := gb308) (o := .cells #[.int .i64 x309000_2, .slice none 0 0] 27 (0, 0)) (by (with_reducible repeat (first | refine Zg ?_ _ | refine Zh ?_ | refine Zf ?_ _)); exact BK308.out) hb); have n3_ := Aside0.mk (Zu (by repeat (first | (with_reducible first | exact HB.out | apply Zj | apply Ze | apply Zi | refine Zd ?_ GE307.out | refine Zd ?_ GE308.out) | exact HB.out)) hb); clear BK307; clear BK308; clear HB; have HO322 := n0_; have BK307 := n1_; have BK308 := n2_; have HB := n3_; clear n0_ n1_ n2_ n3_; (try clear hb); (try clear hb2); (try clear hk); (try clear hi); (try clear ho0); have hcz36_0 : w35.cell? ⟨gb308, 0, none⟩ = some (.int .i64 x309000_2) := (Zk BK308.out 0).trans rfl; have hcz36_1 : w35.cell? ⟨gb308, 1, none⟩ = some (.slice none 0 0) := (Zk BK308.out 1).trans rfl; have hfz36_0 := Zl BK308.out 0; have hfz36_1 := Zl BK308.out 1; obtain ⟨Ao37, co37, eo37⟩ := Kd.S_slice HO322.out; subst eo37))
           refine bodyPost_ret (results_ct rfl _ _ gb308 27 #[.int .i64 t319, .slice Ao37 t320.length co37] (0, 0) _ rfl (by (with_reducible repeat (first | refine Zg ?_ _ | refine Zh ?_ | refine Zf ?_ _)); refine blk_put (cs := #[.int .i64 t319, .slice none 0 0]) ?_ 1 _ rfl; (with_reducible repeat (first | refine Zg ?_ _ | refine Zh ?_ | refine Zf ?_ _)); refine blk_put (cs := #[.int .i64 x309000_2, .slice none 0 0]) ?_ 0 _ rfl; (with_reducible repeat (first | refine Zg ?_ _ | refine Zh ?_ | refine Zf ?_ _)); exact BK308.out) Try.underlying27 rfl (by kernel_rfl)) rfl ?_
           exact ⟨_, by first | rfl | (simp [errW_none, errW_some] <;> rfl) | (simp [*, errW_none, errW_some] <;> rfl), by (with_reducible repeat (first | apply Zn | apply Zm | apply Zo)); exact Zy (ZB (p := ⟨gb308, 1, none⟩) (ZB (p := ⟨gb308, 0, none⟩) (ZJ HO322.out BK308.out (by decide)) (fun _ hk => hk.2) (.int .i64 t319)) (fun _ hk => hk.2) (.slice Ao37 t320.length co37)) (fun _ hk => trivial), by repeat (first | (with_reducible first | exact HB.out | apply Zj | apply Ze | apply Zi | refine Zd ?_ GE307.out | refine Zd ?_ GE308.out) | exact HB.out)⟩
          ·replace c29 := Bool.eq_false_iff.mpr c29
           subst c29
           have H1 : (spec_Renamed.l0 k2 l1 (wrap64 (x6_2 + 1)) a0_0 l0_1) = some (r1, r2, r3) := by rw [if_neg (show ¬ (false = true) by decide)] at H; exact H
           clear H
           have H := H1
           clear H1
           have H' := Aside0.mk H
           clear H
           try go_wp2
           have n0_ := Aside0.mk (Zh BK307.out)
           have n1_ := Aside0.mk (Zh BK308.out)
           have n2_ := Aside0.mk (Zi HB.out)
           clear BK307
           clear BK308
           clear HB
           have BK307 := n0_
           have BK308 := n1_
           have HB := n2_
           clear n0_ n1_ n2_
           have p314 : 0 ≤ (x6_2 : Int) := of_decide_eq_true (by first | (with_reducible assumption) | assumption)
           have q314 : x6_2 < (l1.length : Int) := of_decide_eq_true (by first | (with_reducible assumption) | assumption)
           obtain ⟨ad314, e314, hx314_0⟩ := ZI HR1.out x6_2 p314 q314
           have hw314_0 := hx314_0
           cases e314
           replace hx314_0 := (HB.out.cell (World.block_lt_of_cell? w _ hx314_0)).trans hx314_0
           replace p314 := eq_true p314
           replace q314 := eq_true q314
           have p317 : 0 ≤ (x6_2 : Int) := of_decide_eq_true (by first | (with_reducible assumption) | assumption)
           have q317 : x6_2 < (l1.length : Int) := of_decide_eq_true (by first | (with_reducible assumption) | assumption)
           obtain ⟨ad317, e317, hx317_0⟩ := ZI HR1.out x6_2 p317 q317
           have hw317_0 := hx317_0
           obtain rfl : ad314 = ad317 := (by injection e317)
           replace hx317_0 := (HB.out.cell (World.block_lt_of_cell? w _ hx317_0)).trans hx317_0
           replace p317 := eq_true p317
           replace q317 := eq_true q317
           refine start_ (n := 19) (S := fun w' => w'.cell? ⟨gb307, 0, none⟩ = some (.int .i64 a0_0) ∧ w'.cell? ⟨gb307, 1, none⟩ = some (.slice A0_1 l0_1.length c0_1) ∧ w'.cell? (ad314.add (x6_2).toNat) = some (.int .i64 (rd l1 x6_2)) ∧ w'.cell? (ad314.add (x6_2).toNat) = some (.int .i64 (rd l1 x6_2))) (ds := []) #[O,O,O,O,O,O,O,O,O,O,O,O,O,O,O,O,O,O,O] (by kernel_rfl) rfl rfl ⟨(Zk BK307.out 0).trans rfl, (Zk BK307.out 1).trans rfl, ((HB.out.cell (World.block_lt_of_cell? w _ hw314_0)).trans hw314_0), ((HB.out.cell (World.block_lt_of_cell? w _ hw317_0)).trans hw317_0)⟩ (fun hHeld => ?_); refine with_tabW spec_Renamed.tab6 spec_Renamed.bits6 (fun HT_ HW_ => ?_)
           generalize wr.drew = w38 at BK307 BK308 HB hx314_0 hx317_0 hHeld ⊢
           refine Zx (i := 0) (N := some 27) (v := ?_) (a' := ?_) #[Y,O,O,O,O,O,O,O,O,O,O,O,O,O,O,O,O,O,O] rfl rfl (Zt HT_.out (by kernel_rfl)) (fun _ _ _ h => h) (Or.inl ⟨by rfl, ?_⟩) ?_ ?_
           rotate_left
           ·intro w'
            go_simp
            with_reducible rfl
           rotate_left
           ·simp only [Act.put, Za, Zb, Zc, Zq, Zr]
            rfl
           refine Zx (i := 1) (N := some 28) (v := ?_) (a' := ?_) #[Y,Y,O,O,O,O,O,O,O,O,O,O,O,O,O,O,O,O,O] rfl rfl (Zt HT_.out (by kernel_rfl)) (fun _ _ _ h => h) (Or.inl ⟨by rfl, ?_⟩) ?_ ?_
           rotate_left
           ·intro w'
            go_simp
            with_reducible rfl
           rotate_left
           ·simp only [Act.put, Za, Zb, Zc, Zq, Zr]
            rfl
           refine Zx (i := 2) (N := some 29) (v := ?_) (a' := ?_) #[Y,Y,Y,O,O,O,O,O,O,O,O,O,O,O,O,O,O,O,O] rfl rfl (Zt HT_.out (by kernel_rfl)) (fun _ _ _ h => h) (Or.inl ⟨by rfl, ?_⟩) ?_ ?_
           rotate_left
           ·intro w'
            go_simp
            with_reducible rfl
           rotate_left
           ·simp only [Act.put, Za, Zb, Zc, Zq, Zr]
            rfl
           refine Zx (i := 4) (N := some 31) (v := ?_) (a' := ?_) #[Y,Y,Y,O,Y,O,O,O,O,O,O,O,O,O,O,O,O,O,O] rfl rfl (Zt HT_.out (by kernel_rfl)) (fun _ _ _ h => h) (Or.inl ⟨by rfl, ?_⟩) ?_ ?_
           rotate_left
           ·intro w'
            go_simp
            with_reducible rfl
           rotate_left
           ·simp only [Act.put, Za, Zb, Zc, Zq, Zr]
            rfl
           refine take_ (i := 3) (N := some 30) (v := ?_) (a' := ?_) #[Y,Y,Y,Y,Y,O,O,O,O,O,O,O,O,O,O,O,O,O,O] rfl rfl (take_ofW HT_.out HW_.out (by kernel_rfl)) (fun _ _ _ h => h) (Or.inl ⟨by rfl, ?_⟩) hHeld ?_ ?_
           rotate_left
           ·rintro w' ⟨s0, s1, s2, s3⟩
            go_simp
            with_reducible rfl
           rotate_left
           ·simp only [Act.put, Za, Zb, Zc, Zq, Zr]
            rfl
           refine take_ (i := 5) (N := some 32) (v := ?_) (a' := ?_) #[Y,Y,Y,Y,Y,Y,O,O,O,O,O,O,O,O,O,O,O,O,O] rfl rfl (take_ofW HT_.out HW_.out (by kernel_rfl)) (fun _ _ _ h => h) (Or.inl ⟨by rfl, ?_⟩) hHeld ?_ ?_
           rotate_left
           ·rintro w' ⟨s0, s1, s2, s3⟩
            go_simp
            with_reducible rfl
           rotate_left
           ·simp only [Act.put, Za, Zb, Zc, Zq, Zr]
            rfl
           refine Zx (i := 6) (N := some 33) (v := ?_) (a' := ?_) #[Y,Y,Y,Y,Y,Y,Y,O,O,O,O,O,O,O,O,O,O,O,O] rfl rfl (Zt HT_.out (by kernel_rfl)) (fun _ _ _ h => h) (Or.inl ⟨by rfl, ?_⟩) ?_ ?_
           rotate_left
           ·intro w'
            go_simp
            with_reducible rfl
           rotate_left
           ·simp only [Act.put, Za, Zb, Zc, Zq, Zr]
            rfl
           refine one_ (i := 7) (N := some 34) #[Y,Y,Y,Y,Y,Y,Y,Y,O,O,O,O,O,O,O,O,O,O,O] rfl rfl (one_of HT_.out (by kernel_rfl)) (by decide) (fun K hK => ?_)
           refine goes_ Try.func58 (by kernel_rfl) rfl #[.int .i64 (rd l1 x6_2), .int .i64 0, .int .i64 (wrap64 (a0_0 - 1))] (by rfl) rfl rfl (by (try simp only [List.map_toArray, List.map_cons, List.map_nil]); first | done | rfl | (simp only [List.length_drop, List.length_take]; rfl)) ?_
           with_reducible refine (spec_l1In.calls (rd l1 x6_2) 0 (wrap64 (a0_0 - 1)) true _ A24.out).mono ?_
           rintro e w' ⟨rfl, ⟨nd, rfl⟩⟩
           refine ⟨_, rfl, ?_⟩
           obtain ⟨i039, hi039, _, hsz39, _⟩ := info_parts info3
           obtain ⟨hcut39, hA39, hC39⟩ := print_take_of (P := Try.prog) (Value.int .i64) 0 31 3 .i64 Try.underlying31 hi039 hsz39 (some ad314) c1 l1 x6_2 (of_decide_eq_true (by first | (with_reducible assumption) | assumption)) (of_decide_eq_true (by first | (with_reducible assumption) | assumption)) HC1.out
           have HR316 := Aside0.mk (Kd.C_of_reads (h1 := fun _ => rfl) (hA39 _ (Kd.reads_of_C HR1.out)))
           have HC316 := Aside0.mk hC39
           clear hA39 hC39 hi039 hsz39
           refine hK.out _ _ ⟨(Zk BK307.out 0).trans rfl, (Zk BK307.out 1).trans rfl, ((HB.out.cell (World.block_lt_of_cell? w _ hw314_0)).trans hw314_0), ((HB.out.cell (World.block_lt_of_cell? w _ hw317_0)).trans hw317_0)⟩ (fun hHeld => ?_)
           clear hK K
           refine norm_ (a' := ?_) ?_ ?_
           rotate_left
           ·show Act.put _ (some 34) _ = _
            simp only [Act.put, Za, Zb, Zc, Zq, Zr]
            rfl
           refine Zx (i := 8) (N := some 35) (v := ?_) (a' := ?_) #[Y,Y,Y,Y,Y,Y,Y,Y,Y,O,O,O,O,O,O,O,O,O,O] rfl rfl (Zt HT_.out (by kernel_rfl)) (fun _ _ _ h => h) (Or.inl ⟨by rfl, ?_⟩) ?_ ?_
           rotate_left
           ·intro w'
            go_simp
            with_reducible rfl
           rotate_left
           ·simp only [Act.put, Za, Zb, Zc, Zq, Zr]
            rfl
           refine Zx (i := 9) (N := some 36) (v := ?_) (a' := ?_) #[Y,Y,Y,Y,Y,Y,Y,Y,Y,Y,O,O,O,O,O,O,O,O,O] rfl rfl (Zt HT_.out (by kernel_rfl)) (fun _ _ _ h => h) (Or.inl ⟨by rfl, ?_⟩) ?_ ?_
           rotate_left
           ·intro w'
            go_simp
            with_reducible rfl
           rotate_left
           ·simp only [Act.put, Za, Zb, Zc, Zq, Zr]
            rfl
           refine Zx (i := 10) (N := some 37) (v := ?_) (a' := ?_) #[Y,Y,Y,Y,Y,Y,Y,Y,Y,Y,Y,O,O,O,O,O,O,O,O] rfl rfl (Zt HT_.out (by kernel_rfl)) (fun _ _ _ h => h) (Or.inl ⟨by rfl, ?_⟩) ?_ ?_
           rotate_left
           ·intro w'
            go_simp
            with_reducible rfl
           rotate_left
           ·simp only [Act.put, Za, Zb, Zc, Zq, Zr]
            rfl
           refine Zx (i := 11) (N := some 38) (v := ?_) (a' := ?_) #[Y,Y,Y,Y,Y,Y,Y,Y,Y,Y,Y,Y,O,O,O,O,O,O,O] rfl rfl (Zt HT_.out (by kernel_rfl)) (fun _ _ _ h => h) (Or.inl ⟨by rfl, ?_⟩) ?_ ?_
           rotate_left
           ·intro w'
            go_simp
            with_reducible rfl
           rotate_left
           ·simp only [Act.put, Za, Zb, Zc, Zq, Zr]
            rfl
           refine Zx (i := 12) (N := some 39) (v := ?_) (a' := ?_) #[Y,Y,Y,Y,Y,Y,Y,Y,Y,Y,Y,Y,Y,O,O,O,O,O,O] rfl rfl (Zt HT_.out (by kernel_rfl)) (fun _ _ _ h => h) (Or.inl ⟨by rfl, ?_⟩) ?_ ?_
           rotate_left
           ·intro w'
            go_simp
            with_reducible rfl
           rotate_left
           ·simp only [Act.put, Za, Zb, Zc, Zq, Zr]
            rfl
           refine Zx (i := 13) (N := some 40) (v := ?_) (a' := ?_) #[Y,Y,Y,Y,Y,Y,Y,Y,Y,Y,Y,Y,Y,Y,O,O,O,O,O] rfl rfl (Zt HT_.out (by kernel_rfl)) (fun _ _ _ h => h) (Or.inl ⟨by rfl, ?_⟩) ?_ ?_
           rotate_left
           ·intro w'
            go_simp
            with_reducible rfl
           rotate_left
           ·simp only [Act.put, Za, Zb, Zc, Zq, Zr]
            rfl
           refine Zx (i := 14) (N := some 41) (v := ?_) (a' := ?_) #[Y,Y,Y,Y,Y,Y,Y,Y,Y,Y,Y,Y,Y,Y,Y,O,O,O,O] rfl rfl (Zt HT_.out (by kernel_rfl)) (fun _ _ _ h => h) (Or.inl ⟨by rfl, ?_⟩) ?_ ?_
           rotate_left
           ·intro w'
            go_simp
            with_reducible rfl
           rotate_left
           ·simp only [Act.put, Za, Zb, Zc, Zq, Zr]
            rfl
           refine Zx (i := 15) (N := some 42) (v := ?_) (a' := ?_) #[Y,Y,Y,Y,Y,Y,Y,Y,Y,Y,Y,Y,Y,Y,Y,Y,O,O,O] rfl rfl (Zt HT_.out (by kernel_rfl)) (fun _ _ _ h => h) (Or.inl ⟨by rfl, ?_⟩) ?_ ?_
           rotate_left
           ·intro w'
            go_simp
            with_reducible rfl
           rotate_left
           ·simp only [Act.put, Za, Zb, Zc, Zq, Zr]
            rfl
           refine take_ (i := 16) (N := some 43) (v := ?_) (a' := ?_) #[Y,Y,Y,Y,Y,Y,Y,Y,Y,Y,Y,Y,Y,Y,Y,Y,Y,O,O] rfl rfl (take_ofW HT_.out HW_.out (by kernel_rfl)) (fun _ _ _ h => h) (Or.inl ⟨by rfl, ?_⟩) hHeld ?_ ?_
           rotate_left
           ·rintro w' ⟨s0, s1, s2, s3⟩
            go_simp
            with_reducible rfl
           rotate_left
           ·simp only [Act.put, Za, Zb, Zc, Zq, Zr]
            rfl
           refine one_ (i := 17) (N := some 44) #[Y,Y,Y,Y,Y,Y,Y,Y,Y,Y,Y,Y,Y,Y,Y,Y,Y,Y,O] rfl rfl (one_of HT_.out (by kernel_rfl)) (by decide) (fun K hK => ?_)
           refine goes_ Try.func101 (by kernel_rfl) rfl #[.slice (some ad314) (l1.take (x6_2 : Int).toNat).length c1, .int .i64 (rd l1 x6_2)] (by rfl) rfl rfl (by (try simp only [List.map_toArray, List.map_cons, List.map_nil]); first | done | (rw [show (l1.take (x6_2 : Int).toNat).length = x6_2.toNat from (by rw [List.length_take]; have h_ : (x6_2 : Int) ≤ (l1.length : Int) := of_decide_eq_true (by first | (with_reducible assumption) | assumption); omega)] <;> rfl) | rfl | (simp only [List.length_drop, List.length_take]; rfl)) ?_
           with_reducible refine (spec_l4Has.calls k2 _ _ (l1.take (x6_2 : Int).toNat) (rd l1 x6_2) false _ ?side1 ?side2 A28.out).mono ?_
           (case side1 => repeat (first | exact (ZG HR316.out (by repeat (first | (with_reducible first | exact HB.out | apply Zj | apply Ze | apply Zi | refine Zd ?_ GE307.out | refine Zd ?_ GE308.out) | exact HB.out))) | (with_reducible refine Zw ?_ _) | (with_reducible refine Zv ?_ _) | (with_reducible refine Zz ?_)))
           (case side2 => exact HC316.out)
           rintro e w' ⟨rfl, ⟨nd, rfl⟩⟩
           refine ⟨_, rfl, ?_⟩
           refine hK.out _ _ ⟨(Zk BK307.out 0).trans rfl, (Zk BK307.out 1).trans rfl, ((HB.out.cell (World.block_lt_of_cell? w _ hw314_0)).trans hw314_0), ((HB.out.cell (World.block_lt_of_cell? w _ hw317_0)).trans hw317_0)⟩ (fun hHeld => ?_)
           clear hK K
           refine norm_ (a' := ?_) ?_ ?_
           rotate_left
           ·show Act.put _ (some 44) _ = _
            simp only [Act.put, Za, Zb, Zc, Zq, Zr]
            rfl
           refine Zx (i := 18) (N := some 45) (v := ?_) (a' := ?_) #[Y,Y,Y,Y,Y,Y,Y,Y,Y,Y,Y,Y,Y,Y,Y,Y,Y,Y,Y] rfl rfl (Zt HT_.out (by kernel_rfl)) (fun _ _ _ h => h) (Or.inl ⟨by rfl, ?_⟩) ?_ ?_
           rotate_left
           ·intro w'
            go_simp
            with_reducible rfl
           rotate_left
           ·simp only [Act.put, Za, Zb, Zc, Zq, Zr]
            rfl
           refine done_ (done_of HT_.out (by kernel_rfl)) ?_
           try go_wp2
           go_roundg k2
           case measure => have := HJ2.out; have := HK2.out; omega
           case rel => exact ⟨(wrap64 (x6_2 + 1)), (x309000_2), (by first | rfl | (simp; done) | (simp [*]; done)), H', ⟨by have := HJ2.out; have := HK2.out; omega⟩, ⟨by (with_reducible repeat (first | refine Zg ?_ _ | refine Zh ?_ | refine Zf ?_ _)); exact BK307.out⟩, ⟨by (with_reducible repeat (first | refine Zg ?_ _ | refine Zh ?_ | refine Zf ?_ _)); exact BK308.out⟩, ⟨by repeat (first | (with_reducible first | exact HB.out | apply Zj | apply Ze | apply Zi | refine Zd ?_ GE307.out | refine Zd ?_ GE308.out) | exact HB.out)⟩⟩
         ·rw [if_neg c27] at H
          exact absurd H (by simp)
        ·replace c25 := Bool.eq_false_iff.mpr c25
         subst c25
         have H1 : ((spec_l4Copy.f k2 a0_0 l0_1).bind fun bt323 => (some (bt323.1, bt323.2, false))) = some (r1, r2, r3) := by rw [if_neg (show ¬ (false = true) by decide)] at H; exact H
         clear H
         have H := H1
         clear H1
         replace H := Option.bind_eq_some_iff.mp H
         obtain ⟨⟨t323, t324⟩, A400, H⟩ := H
         replace H : (some (t323, t324, false)) = some (r1, r2, r3) := H
         have A40 := Aside0.mk A400
         clear A400
         simp only [Option.some.injEq, Prod.mk.injEq] at H
         obtain ⟨rfl, rfl, rfl⟩ := H
         try go_wp2
         have n0_ := Aside0.mk (Zh BK307.out)
         have n1_ := Aside0.mk (Zh BK308.out)
         have n2_ := Aside0.mk (Zi HB.out)
         clear BK307
         clear BK308
         clear HB
         have BK307 := n0_
         have BK308 := n1_
         have HB := n2_
         clear n0_ n1_ n2_
         have p314 : 0 ≤ (x6_2 : Int) := of_decide_eq_true (by first | (with_reducible assumption) | assumption)
         have q314 : x6_2 < (l1.length : Int) := of_decide_eq_true (by first | (with_reducible assumption) | assumption)
         obtain ⟨ad314, e314, hx314_0⟩ := ZI HR1.out x6_2 p314 q314
         have hw314_0 := hx314_0
         cases e314
         replace hx314_0 := (HB.out.cell (World.block_lt_of_cell? w _ hx314_0)).trans hx314_0
         replace p314 := eq_true p314
         replace q314 := eq_true q314
         refine start_ (n := 19) (S := fun w' => w'.cell? ⟨gb307, 0, none⟩ = some (.int .i64 a0_0) ∧ w'.cell? ⟨gb307, 1, none⟩ = some (.slice A0_1 l0_1.length c0_1) ∧ w'.cell? (ad314.add (x6_2).toNat) = some (.int .i64 (rd l1 x6_2))) (ds := []) #[O,O,O,O,O,O,O,O,O,O,O,O,O,O,O,O,O,O,O] (by kernel_rfl) rfl rfl ⟨(Zk BK307.out 0).trans rfl, (Zk BK307.out 1).trans rfl, ((HB.out.cell (World.block_lt_of_cell? w _ hw314_0)).trans hw314_0)⟩ (fun hHeld => ?_); refine with_tabW spec_Renamed.tab6 spec_Renamed.bits6 (fun HT_ HW_ => ?_)
         generalize wr.drew = w41 at BK307 BK308 HB hx314_0 hHeld ⊢
         refine Zx (i := 0) (N := some 27) (v := ?_) (a' := ?_) #[Y,O,O,O,O,O,O,O,O,O,O,O,O,O,O,O,O,O,O] rfl rfl (Zt HT_.out (by kernel_rfl)) (fun _ _ _ h => h) (Or.inl ⟨by rfl, ?_⟩) ?_ ?_
         rotate_left
         ·intro w'
          go_simp
          with_reducible rfl
         rotate_left
         ·simp only [Act.put, Za, Zb, Zc, Zq, Zr]
          rfl
         refine Zx (i := 1) (N := some 28) (v := ?_) (a' := ?_) #[Y,Y,O,O,O,O,O,O,O,O,O,O,O,O,O,O,O,O,O] rfl rfl (Zt HT_.out (by kernel_rfl)) (fun _ _ _ h => h) (Or.inl ⟨by rfl, ?_⟩) ?_ ?_
         rotate_left
         ·intro w'
          go_simp
          with_reducible rfl
         rotate_left
         ·simp only [Act.put, Za, Zb, Zc, Zq, Zr]
          rfl
         refine Zx (i := 2) (N := some 29) (v := ?_) (a' := ?_) #[Y,Y,Y,O,O,O,O,O,O,O,O,O,O,O,O,O,O,O,O] rfl rfl (Zt HT_.out (by kernel_rfl)) (fun _ _ _ h => h) (Or.inl ⟨by rfl, ?_⟩) ?_ ?_
         rotate_left
         ·intro w'
          go_simp
          with_reducible rfl
         rotate_left
         ·simp only [Act.put, Za, Zb, Zc, Zq, Zr]
          rfl
         refine Zx (i := 4) (N := some 31) (v := ?_) (a' := ?_) #[Y,Y,Y,O,Y,O,O,O,O,O,O,O,O,O,O,O,O,O,O] rfl rfl (Zt HT_.out (by kernel_rfl)) (fun _ _ _ h => h) (Or.inl ⟨by rfl, ?_⟩) ?_ ?_
         rotate_left
         ·intro w'
          go_simp
          with_reducible rfl
         rotate_left
         ·simp only [Act.put, Za, Zb, Zc, Zq, Zr]
          rfl
         refine take_ (i := 3) (N := some 30) (v := ?_) (a' := ?_) #[Y,Y,Y,Y,Y,O,O,O,O,O,O,O,O,O,O,O,O,O,O] rfl rfl (take_ofW HT_.out HW_.out (by kernel_rfl)) (fun _ _ _ h => h) (Or.inl ⟨by rfl, ?_⟩) hHeld ?_ ?_
         rotate_left
         ·rintro w' ⟨s0, s1, s2⟩
          go_simp
          with_reducible rfl
         rotate_left
         ·simp only [Act.put, Za, Zb, Zc, Zq, Zr]
          rfl
         refine take_ (i := 5) (N := some 32) (v := ?_) (a' := ?_) #[Y,Y,Y,Y,Y,Y,O,O,O,O,O,O,O,O,O,O,O,O,O] rfl rfl (take_ofW HT_.out HW_.out (by kernel_rfl)) (fun _ _ _ h => h) (Or.inl ⟨by rfl, ?_⟩) hHeld ?_ ?_
         rotate_left
         ·rintro w' ⟨s0, s1, s2⟩
          go_simp
          with_reducible rfl
         rotate_left
         ·simp only [Act.put, Za, Zb, Zc, Zq, Zr]
          rfl
         refine Zx (i := 6) (N := some 33) (v := ?_) (a' := ?_) #[Y,Y,Y,Y,Y,Y,Y,O,O,O,O,O,O,O,O,O,O,O,O] rfl rfl (Zt HT_.out (by kernel_rfl)) (fun _ _ _ h => h) (Or.inl ⟨by rfl, ?_⟩) ?_ ?_
         rotate_left
         ·intro w'
          go_simp
          with_reducible rfl
         rotate_left
         ·simp only [Act.put, Za, Zb, Zc, Zq, Zr]
          rfl
         refine one_ (i := 7) (N := some 34) #[Y,Y,Y,Y,Y,Y,Y,Y,O,O,O,O,O,O,O,O,O,O,O] rfl rfl (one_of HT_.out (by kernel_rfl)) (by decide) (fun K hK => ?_)
         refine goes_ Try.func58 (by kernel_rfl) rfl #[.int .i64 (rd l1 x6_2), .int .i64 0, .int .i64 (wrap64 (a0_0 - 1))] (by rfl) rfl rfl (by (try simp only [List.map_toArray, List.map_cons, List.map_nil]); first | done | rfl | (simp only [List.length_drop, List.length_take]; rfl)) ?_
         with_reducible refine (spec_l1In.calls (rd l1 x6_2) 0 (wrap64 (a0_0 - 1)) false _ A24.out).mono ?_
         rintro e w' ⟨rfl, ⟨nd, rfl⟩⟩
         refine ⟨_, rfl, ?_⟩
         refine hK.out _ _ ⟨(Zk BK307.out 0).trans rfl, (Zk BK307.out 1).trans rfl, ((HB.out.cell (World.block_lt_of_cell? w _ hw314_0)).trans hw314_0)⟩ (fun hHeld => ?_)
         clear hK K
         refine norm_ (a' := ?_) ?_ ?_
         rotate_left
         ·show Act.put _ (some 34) _ = _
          simp only [Act.put, Za, Zb, Zc, Zq, Zr]
          rfl
         refine Zx (i := 8) (N := some 35) (v := ?_) (a' := ?_) #[Y,Y,Y,Y,Y,Y,Y,Y,Y,O,O,O,O,O,O,O,O,O,O] rfl rfl (Zt HT_.out (by kernel_rfl)) (fun _ _ _ h => h) (Or.inl ⟨by rfl, ?_⟩) ?_ ?_
         rotate_left
         ·intro w'
          go_simp
          with_reducible rfl
         rotate_left
         ·simp only [Act.put, Za, Zb, Zc, Zq, Zr]
          rfl
         refine Zx (i := 9) (N := some 36) (v := ?_) (a' := ?_) #[Y,Y,Y,Y,Y,Y,Y,Y,Y,Y,O,O,O,O,O,O,O,O,O] rfl rfl (Zt HT_.out (by kernel_rfl)) (fun _ _ _ h => h) (Or.inl ⟨by rfl, ?_⟩) ?_ ?_
         rotate_left
         ·intro w'
          go_simp
          with_reducible rfl
         rotate_left
         ·simp only [Act.put, Za, Zb, Zc, Zq, Zr]
          rfl
         refine Zx (i := 10) (N := some 37) (v := undef) (a' := ?_) #[Y,Y,Y,Y,Y,Y,Y,Y,Y,Y,Y,O,O,O,O,O,O,O,O] rfl rfl (Zt HT_.out (by kernel_rfl)) (fun _ _ _ h => h) (Or.inr ⟨by rfl, rfl⟩) ?_ ?_
         rotate_left
         ·simp only [Act.put, Za, Zb, Zc, Zq, Zr]
          rfl
         refine Zx (i := 11) (N := some 38) (v := undef) (a' := ?_) #[Y,Y,Y,Y,Y,Y,Y,Y,Y,Y,Y,Y,O,O,O,O,O,O,O] rfl rfl (Zt HT_.out (by kernel_rfl)) (fun _ _ _ h => h) (Or.inr ⟨by rfl, rfl⟩) ?_ ?_
         rotate_left
         ·simp only [Act.put, Za, Zb, Zc, Zq, Zr]
          rfl
         refine Zx (i := 12) (N := some 39) (v := undef) (a' := ?_) #[Y,Y,Y,Y,Y,Y,Y,Y,Y,Y,Y,Y,Y,O,O,O,O,O,O] rfl rfl (Zt HT_.out (by kernel_rfl)) (fun _ _ _ h => h) (Or.inr ⟨by rfl, rfl⟩) ?_ ?_
         rotate_left
         ·simp only [Act.put, Za, Zb, Zc, Zq, Zr]
          rfl
         refine Zx (i := 13) (N := some 40) (v := undef) (a' := ?_) #[Y,Y,Y,Y,Y,Y,Y,Y,Y,Y,Y,Y,Y,Y,O,O,O,O,O] rfl rfl (Zt HT_.out (by kernel_rfl)) (fun _ _ _ h => h) (Or.inr ⟨by rfl, rfl⟩) ?_ ?_
         rotate_left
         ·simp only [Act.put, Za, Zb, Zc, Zq, Zr]
          rfl
         refine Zx (i := 14) (N := some 41) (v := undef) (a' := ?_) #[Y,Y,Y,Y,Y,Y,Y,Y,Y,Y,Y,Y,Y,Y,Y,O,O,O,O] rfl rfl (Zt HT_.out (by kernel_rfl)) (fun _ _ _ h => h) (Or.inr ⟨by rfl, rfl⟩) ?_ ?_
         rotate_left
         ·simp only [Act.put, Za, Zb, Zc, Zq, Zr]
          rfl
         refine Zx (i := 15) (N := some 42) (v := undef) (a' := ?_) #[Y,Y,Y,Y,Y,Y,Y,Y,Y,Y,Y,Y,Y,Y,Y,Y,O,O,O] rfl rfl (Zt HT_.out (by kernel_rfl)) (fun _ _ _ h => h) (Or.inr ⟨by rfl, rfl⟩) ?_ ?_
         rotate_left
         ·simp only [Act.put, Za, Zb, Zc, Zq, Zr]
          rfl
         refine Zx (i := 16) (N := some 43) (v := undef) (a' := ?_) #[Y,Y,Y,Y,Y,Y,Y,Y,Y,Y,Y,Y,Y,Y,Y,Y,Y,O,O] rfl rfl (Zt HT_.out (by kernel_rfl)) (fun _ _ _ h => h) (Or.inr ⟨by rfl, rfl⟩) ?_ ?_
         rotate_left
         ·simp only [Act.put, Za, Zb, Zc, Zq, Zr]
          rfl
         refine Zx (i := 17) (N := some 44) (v := undef) (a' := ?_) #[Y,Y,Y,Y,Y,Y,Y,Y,Y,Y,Y,Y,Y,Y,Y,Y,Y,Y,O] rfl rfl (Zt HT_.out (by kernel_rfl)) (fun _ _ _ h => h) (Or.inr ⟨by rfl, rfl⟩) ?_ ?_
         rotate_left
         ·simp only [Act.put, Za, Zb, Zc, Zq, Zr]
          rfl
         refine Zx (i := 18) (N := some 45) (v := ?_) (a' := ?_) #[Y,Y,Y,Y,Y,Y,Y,Y,Y,Y,Y,Y,Y,Y,Y,Y,Y,Y,Y] rfl rfl (Zt HT_.out (by kernel_rfl)) (fun _ _ _ h => h) (Or.inl ⟨by rfl, ?_⟩) ?_ ?_
         rotate_left
         ·intro w'
          go_simp
          with_reducible rfl
         rotate_left
         ·simp only [Act.put, Za, Zb, Zc, Zq, Zr]
          rfl
         refine done_ (done_of HT_.out (by kernel_rfl)) ?_
         have hnb42 := NB307_308.out
         have hnc42 := NB308_307.out
         have hcz43_0 : w41.cell? ⟨gb307, 0, none⟩ = some (.int .i64 a0_0) := (Zk BK307.out 0).trans rfl
         have hcz43_1 : w41.cell? ⟨gb307, 1, none⟩ = some (.slice A0_1 l0_1.length c0_1) := (Zk BK307.out 1).trans rfl
         have hfz43_0 := Zl BK307.out 0
         have hfz43_1 := Zl BK307.out 1
         try go_wp2_with (first | ((with_reducible refine ZA (f := 92) rfl ?_); refine goesL_ (some 47) rfl rfl Try.func92 (by kernel_rfl) rfl #[.agg #[.int .i64 a0_0, .slice A0_1 l0_1.length c0_1]] rfl (by (try simp only [List.map_toArray, List.map_cons, List.map_nil]); first | done | rfl | (simp only [List.length_drop, List.length_take]; rfl)) ?_; (with_reducible refine (spec_l4Copy.calls k2 a0_0 _ _ l0_1 t323 t324 _ ?side1 ?side2 A40.out).mono ?_); (case side1 => repeat (first | exact (ZG HR0_1.out (by repeat (first | (with_reducible first | exact HB.out | apply Zj | apply Ze | apply Zi | refine Zd ?_ GE307.out | refine Zd ?_ GE308.out) | exact HB.out))) | (with_reducible refine Zw ?_ _) | (with_reducible refine Zv ?_ _) | (with_reducible refine Zz ?_))); (case side2 => exact HC0_1.out); rintro e w44 ⟨v325, rfl, ho0, hb⟩; refine ⟨_, rfl, ?_⟩; have n0_ := Aside0.mk (Kd.S_lower ho0 (Zs (by repeat (first | (with_reducible first | exact HB.out | apply Zj | apply Ze | apply Zi | refine Zd ?_ GE307.out | refine Zd ?_ GE308.out) | exact HB.out)))); have n1_ := Aside0.mk (Zp (g := gb307) (o := .cells #[.int .i64 a0_0, .slice A0_1 l0_1.length c0_1] 27 (0, 0)) (by (with_reducible repeat (first | refine Zg ?_ _ | refine Zh ?_ | refine Zf ?_ _)); exact BK307.out) hb); have n2_ := Aside0.mk (Zp (g := gb308) (o := .cells #[.int .i64 x309000_2, .slice none 0 0] 27 (0, 0)) (by (with_reducible repeat (first | refine Zg ?_ _ | refine Zh ?_ | refine Zf ?_ _)); exact BK308.out) hb); have n3_ := Aside0.mk (Zu (by repeat (first | (with_reducible first | exact HB.out | apply Zj | apply Ze | apply Zi | refine Zd ?_ GE307.out | refine Zd ?_ GE308.out) | exact HB.out)) hb); clear BK307; clear BK308; clear HB; have HO326 := n0_; have BK307 := n1_; have BK308 := n2_; have HB := n3_; clear n0_ n1_ n2_ n3_; (try clear hb); (try clear hb2); (try clear hk); (try clear hi); (try clear ho0); have hcz45_0 : w44.cell? ⟨gb308, 0, none⟩ = some (.int .i64 x309000_2) := (Zk BK308.out 0).trans rfl; have hcz45_1 : w44.cell? ⟨gb308, 1, none⟩ = some (.slice none 0 0) := (Zk BK308.out 1).trans rfl; have hfz45_0 := Zl BK308.out 0; have hfz45_1 := Zl BK308.out 1; obtain ⟨Ao46, co46, eo46⟩ := Kd.S_slice HO326.out; subst eo46))
         refine bodyPost_ret (results_ct rfl _ _ gb308 27 #[.int .i64 t323, .slice Ao46 t324.length co46] (0, 0) _ rfl (by (with_reducible repeat (first | refine Zg ?_ _ | refine Zh ?_ | refine Zf ?_ _)); refine blk_put (cs := #[.int .i64 t323, .slice none 0 0]) ?_ 1 _ rfl; (with_reducible repeat (first | refine Zg ?_ _ | refine Zh ?_ | refine Zf ?_ _)); refine blk_put (cs := #[.int .i64 x309000_2, .slice none 0 0]) ?_ 0 _ rfl; (with_reducible repeat (first | refine Zg ?_ _ | refine Zh ?_ | refine Zf ?_ _)); exact BK308.out) Try.underlying27 rfl (by kernel_rfl)) rfl ?_
         exact ⟨_, by first | rfl | (simp [errW_none, errW_some] <;> rfl) | (simp [*, errW_none, errW_some] <;> rfl), by (with_reducible repeat (first | apply Zn | apply Zm | apply Zo)); exact Zy (ZB (p := ⟨gb308, 1, none⟩) (ZB (p := ⟨gb308, 0, none⟩) (ZJ HO326.out BK308.out (by decide)) (fun _ hk => hk.2) (.int .i64 t323)) (fun _ hk => hk.2) (.slice Ao46 t324.length co46)) (fun _ hk => trivial), by repeat (first | (with_reducible first | exact HB.out | apply Zj | apply Ze | apply Zi | refine Zd ?_ GE307.out | refine Zd ?_ GE308.out) | exact HB.out)⟩
       ·rw [if_neg c23] at H
        exact absurd H (by simp)
      ·rw [if_neg c22] at H
       have c22b0 : decide (x6_2 < (l1.length : Int)) = false := decide_eq_false c22
       clear c22
       have H' := Aside0.mk H
       clear H
       have hnb47 := NB307_308.out
       have hnc47 := NB308_307.out
       have hcz48_0 : wr.cell? ⟨gb307, 0, none⟩ = some (.int .i64 a0_0) := (Zk BK307.out 0).trans rfl
       have hcz48_1 : wr.cell? ⟨gb307, 1, none⟩ = some (.slice A0_1 l0_1.length c0_1) := (Zk BK307.out 1).trans rfl
       have hfz48_0 := Zl BK307.out 0
       have hfz48_1 := Zl BK307.out 1
       go_wp2_with (first | ((with_reducible refine gate_dst (N := 7) rfl ?_); (try (refine gate_guard (by rfl) ?_; dsimp only)); refine box_event ?hg (N := 7) ?hd (cs := #[.int .i64 0, .slice none 0 0]) (t := 27) ?hr ?_; (case hd => rfl); (case hg => rfl); (case hr => first | (go_simp; done) | (go_simp; rfl)); intro gb327 hg w49 hbox hb; have n0_ := Aside0.mk (Zp (g := gb307) (o := .cells #[.int .i64 a0_0, .slice A0_1 l0_1.length c0_1] 27 (0, 0)) (by (with_reducible repeat (first | refine Zg ?_ _ | refine Zh ?_ | refine Zf ?_ _)); exact BK307.out) hb); have n1_ := Aside0.mk (Zp (g := gb308) (o := .cells #[.int .i64 x309000_2, .slice none 0 0] 27 (0, 0)) (by (with_reducible repeat (first | refine Zg ?_ _ | refine Zh ?_ | refine Zf ?_ _)); exact BK308.out) hb); have n2_ := Aside0.mk (Zu (by repeat (first | (with_reducible first | exact HB.out | apply Zj | apply Ze | apply Zi | refine Zd ?_ GE307.out | refine Zd ?_ GE308.out) | exact HB.out)) hb); have n3_ := Aside0.mk (hbox); have n4_ := Aside0.mk ((by rw [hg]; exact (Zs (by repeat (first | (with_reducible first | exact HB.out | apply Zj | apply Ze | apply Zi | refine Zd ?_ GE307.out | refine Zd ?_ GE308.out) | exact HB.out))) : w.heap.size ≤ gb327)); have n5_ := Aside0.mk ((by rw [hg]; exact (Zs (by repeat (first | (with_reducible first | exact HB.out | apply Zj | apply Ze | apply Zi | refine Zd ?_ GE307.out | refine Zd ?_ GE308.out) | exact HB.out))) : w.heap.size ≤ gb327)); have n6_ := Aside0.mk ((by rw [hg]; exact Nat.ne_of_lt (blk_lt (g := gb307) (o := .cells #[.int .i64 a0_0, .slice A0_1 l0_1.length c0_1] 27 (0, 0)) (by (with_reducible repeat (first | refine Zg ?_ _ | refine Zh ?_ | refine Zf ?_ _)); exact BK307.out)) : gb307 ≠ gb327)); have n7_ := Aside0.mk ((by rw [hg]; exact Nat.ne_of_gt (blk_lt (g := gb307) (o := .cells #[.int .i64 a0_0, .slice A0_1 l0_1.length c0_1] 27 (0, 0)) (by (with_reducible repeat (first | refine Zg ?_ _ | refine Zh ?_ | refine Zf ?_ _)); exact BK307.out)) : gb327 ≠ gb307)); have n8_ := Aside0.mk ((by rw [hg]; exact Nat.ne_of_lt (blk_lt (g := gb308) (o := .cells #[.int .i64 x309000_2, .slice none 0 0] 27 (0, 0)) (by (with_reducible repeat (first | refine Zg ?_ _ | refine Zh ?_ | refine Zf ?_ _)); exact BK308.out)) : gb308 ≠ gb327)); have n9_ := Aside0.mk ((by rw [hg]; exact Nat.ne_of_gt (blk_lt (g := gb308) (o := .cells #[.int .i64 x309000_2, .slice none 0 0] 27 (0, 0)) (by (with_reducible repeat (first | refine Zg ?_ _ | refine Zh ?_ | refine Zf ?_ _)); exact BK308.out)) : gb327 ≠ gb308)); clear BK307; clear BK308; clear HB; have BK307 := n0_; have BK308 := n1_; have HB := n2_; have BK327 := n3_; have GW327 := n4_; have GE327 := n5_; have NB307_327 := n6_; have NB327_307 := n7_; have NB308_327 := n8_; have NB327_308 := n9_; clear n0_ n1_ n2_ n3_ n4_ n5_ n6_ n7_ n8_ n9_; clear hb hbox hg; have hnb50 := NB327_307.out; have hnc50 := NB307_327.out; have hnb51 := NB327_308.out; have hnc51 := NB308_327.out; have hcz52_0 : w49.cell? ⟨gb327, 0, none⟩ = some (.int .i64 0) := (Zk BK327.out 0).trans rfl; have hcz52_1 : w49.cell? ⟨gb327, 1, none⟩ = some (.slice none 0 0) := (Zk BK327.out 1).trans rfl; have hfz52_0 := Zl BK327.out 0; have hfz52_1 := Zl BK327.out 1))
       go_loopg [8] k2 (fun kq v8 w' => ∃ (x8_3 : Int) (x328000_3 : Int) (x328001_3 : List (List Int)) (u328001 : Value), v8 = .int .i64 x8_3 ∧ Aside0 (spec_Renamed.l1 kq l1 x8_3 a0_0 l0_1 x328000_3 x328001_3 = some (r1, r2, r3)) ∧ Aside0 (kq ≤ k2) ∧ Aside0 (Kd.S (Kd.slice 3 (Kd.int .i64)) 31 w' w.heap.size (fun _ => True) u328001 x328001_3) ∧ Aside0 (w'.heap[gb307]? = some (.cells #[.int .i64 a0_0, (.slice A0_1 l0_1.length c0_1)] 27 (0, 0))) ∧ Aside0 (w'.heap[gb308]? = some (.cells #[.int .i64 x309000_2, (.slice none 0 0)] 27 (0, 0))) ∧ Aside0 (w'.heap[gb327]? = some (.cells #[.int .i64 x328000_3, u328001] 27 (0, 0))) ∧ Aside0 (Below w.heap.size w w'))
       case atStart => exact ⟨(0), (a0_0), (([] : List (List Int))), (.slice none 0 0), (by first | rfl | (simp; done) | (simp [*]; done)), H', ⟨Nat.le_refl _⟩, ⟨by first | exact Kd.S_nil _ _ _ _ _ | exact Kd.N_nil _ _ _ _ _ | exact Kd.V_nil _ _ _ _ _ | exact Kd.Q_nil _ _ _ _ _ | exact Kd.R_nil _ _ _ _ _⟩, ⟨by (with_reducible repeat (first | refine Zg ?_ _ | refine Zh ?_ | refine Zf ?_ _)); refine ZP ?_ NB307_327.out _; (with_reducible repeat (first | refine Zg ?_ _ | refine Zh ?_ | refine Zf ?_ _)); refine ZP ?_ NB307_327.out _; (with_reducible repeat (first | refine Zg ?_ _ | refine Zh ?_ | refine Zf ?_ _)); exact BK307.out⟩, ⟨by (with_reducible repeat (first | refine Zg ?_ _ | refine Zh ?_ | refine Zf ?_ _)); refine ZP ?_ NB308_327.out _; (with_reducible repeat (first | refine Zg ?_ _ | refine Zh ?_ | refine Zf ?_ _)); refine ZP ?_ NB308_327.out _; (with_reducible repeat (first | refine Zg ?_ _ | refine Zh ?_ | refine Zf ?_ _)); exact BK308.out⟩, ⟨by (with_reducible repeat (first | refine Zg ?_ _ | refine Zh ?_ | refine Zf ?_ _)); refine blk_put (cs := #[.int .i64 a0_0, .slice none 0 0]) ?_ 1 _ rfl; (with_reducible repeat (first | refine Zg ?_ _ | refine Zh ?_ | refine Zf ?_ _)); refine blk_put (cs := #[.int .i64 0, .slice none 0 0]) ?_ 0 _ rfl; (with_reducible repeat (first | refine Zg ?_ _ | refine Zh ?_ | refine Zf ?_ _)); exact BK327.out⟩, ⟨by repeat (first | (with_reducible first | exact HB.out | apply Zj | apply Ze | apply Zi | refine Zd ?_ GE307.out | refine Zd ?_ GE308.out | refine Zd ?_ GE327.out) | exact HB.out)⟩⟩
       case round =>
        clear H'
        try clear c1
        try clear c2
        try clear p2
        try clear c3
        try clear p3
        try clear q3
        try clear hx3
        try clear c4
        try clear c5
        try clear p6
        try clear c9
        try clear c10
        try clear c22
        try clear c22b0
        try clear c23
        try clear c25
        try clear c27
        try clear c29
        try clear p31
        try clear q31
        try clear hx31
        try clear c33
        try clear c42
        try clear c47
        try clear c50
        try clear c51
        try clear hcz34_0
        try clear hcz34_1
        try clear hcz36_0
        try clear hcz36_1
        try clear hcz43_0
        try clear hcz43_1
        try clear hcz45_0
        try clear hcz45_1
        try clear hcz48_0
        try clear hcz48_1
        try clear hcz52_0
        try clear hcz52_1
        try clear hfz34_0
        try clear hfz34_1
        try clear hfz36_0
        try clear hfz36_1
        try clear hfz43_0
        try clear hfz43_1
        try clear hfz45_0
        try clear hfz45_1
        try clear hfz48_0
        try clear hfz48_1
        try clear hfz52_0
        try clear hfz52_1
        try clear hx314_0
        try clear hx317_0
        try clear p314
        try clear p317
        try clear q314
        try clear q317
        obtain ⟨x8_3, x328000_3, x328001_3, u328001, rfl, HA, HK3, HO_328001, BK307, BK308, BK327, HB⟩ := hrel
        cases gk with
        | zero => exact absurd HA.out (by simp [spec_Renamed.l1])
        | succ k3 =>
         have H := HA.out
         clear HA
         simp only [spec_Renamed.l1] at H
         by_cases c53 : x8_3 < (l0_1.length : Int)
         ·rw [if_pos c53] at H
          have c53b0 : decide (x8_3 < (l0_1.length : Int)) = true := decide_eq_true c53
          clear c53
          by_cases c54 : 0 ≤ x8_3
          ·rw [if_pos c54] at H
           have c54b0 : decide (0 ≤ x8_3) = true := decide_eq_true c54
           clear c54
           by_cases c55 : 0 < ((rd_L1 l0_1 x8_3).length : Int)
           ·rw [if_pos c55] at H
            have c55b0 : decide (0 < ((rd_L1 l0_1 x8_3).length : Int)) = true := decide_eq_true c55
            have c55b1 : decide (0 < (rd_L1 l0_1 x8_3).length) = true := decide_eq_true (by omega)
            clear c55
            by_cases c56 : 0 ≤ (rd (rd_L1 l0_1 x8_3) 0)
            ·rw [if_pos c56] at H
             have c56b0 : decide (0 ≤ (rd (rd_L1 l0_1 x8_3) 0)) = true := decide_eq_true c56
             clear c56
             by_cases c57 : (rd (rd_L1 l0_1 x8_3) 0) < (l1.length : Int)
             ·rw [if_pos c57] at H
              have c57b0 : decide ((rd (rd_L1 l0_1 x8_3) 0) < (l1.length : Int)) = true := decide_eq_true c57
              clear c57
              by_cases c58 : 1 < ((rd_L1 l0_1 x8_3).length : Int)
              ·rw [if_pos c58] at H
               have c58b0 : decide (1 < ((rd_L1 l0_1 x8_3).length : Int)) = true := decide_eq_true c58
               have c58b1 : decide (1 < (rd_L1 l0_1 x8_3).length) = true := decide_eq_true (by omega)
               clear c58
               by_cases c59 : 0 ≤ (rd (rd_L1 l0_1 x8_3) 1)
               ·rw [if_pos c59] at H
                have c59b0 : decide (0 ≤ (rd (rd_L1 l0_1 x8_3) 1)) = true := decide_eq_true c59
                clear c59
                by_cases c60 : (rd (rd_L1 l0_1 x8_3) 1) < (l1.length : Int)
                ·rw [if_pos c60] at H
                 have c60b0 : decide ((rd (rd_L1 l0_1 x8_3) 1) < (l1.length : Int)) = true := decide_eq_true c60
                 clear c60
                 replace H := Option.bind_eq_some_iff.mp H
                 obtain ⟨⟨t334, t335, t338⟩, A610, H⟩ := H
                 replace H : (spec_Renamed.l1 k3 l1 (wrap64 (x8_3 + 1)) a0_0 l0_1 t334 t335) = some (r1, r2, r3) := H
                 have A61 := Aside0.mk A610
                 clear A610
                 have H' := Aside0.mk H
                 clear H
                 have hnb62 := NB307_308.out
                 have hnc62 := NB308_307.out
                 have hnb63 := NB307_327.out
                 have hnc63 := NB327_307.out
                 have hcz64_0 : wr.cell? ⟨gb307, 0, none⟩ = some (.int .i64 a0_0) := (Zk BK307.out 0).trans rfl
                 have hcz64_1 : wr.cell? ⟨gb307, 1, none⟩ = some (.slice A0_1 l0_1.length c0_1) := (Zk BK307.out 1).trans rfl
                 have hfz64_0 := Zl BK307.out 0
                 have hfz64_1 := Zl BK307.out 1
                 try go_wp2
                 have n0_ := Aside0.mk (Zo HO_328001.out)
                 have n1_ := Aside0.mk (Zh BK307.out)
                 have n2_ := Aside0.mk (Zh BK308.out)
                 have n3_ := Aside0.mk (Zh BK327.out)
                 have n4_ := Aside0.mk (Zi HB.out)
                 clear HO_328001
                 clear BK307
                 clear BK308
                 clear BK327
                 clear HB
                 have HO_328001 := n0_
                 have BK307 := n1_
                 have BK308 := n2_
                 have BK327 := n3_
                 have HB := n4_
                 clear n0_ n1_ n2_ n3_ n4_
                 have p328 : 0 ≤ (x8_3 : Int) := of_decide_eq_true (by first | (with_reducible assumption) | assumption)
                 have q328 : x8_3 < (l0_1.length : Int) := of_decide_eq_true (by first | (with_reducible assumption) | assumption)
                 obtain ⟨ad328, A328_0, c328_0, e328, hx328_0, hl328_0, hi328_0⟩ := at_L1 HR0_1.out x8_3 p328 q328
                 have hw328_0 := hx328_0
                 cases e328
                 replace hx328_0 := (HB.out.cell (World.block_lt_of_cell? w _ hx328_0)).trans hx328_0
                 have HR328_0 := Aside0.mk hi328_0
                 have HC328_0 := Aside0.mk hl328_0
                 clear hi328_0 hl328_0
                 replace p328 := eq_true p328
                 replace q328 := eq_true q328
                 have p329 : 0 ≤ (0 : Int) := (by omega)
                 have q329 : 0 < ((rd_L1 l0_1 x8_3).length : Int) := of_decide_eq_true (by first | (with_reducible assumption) | assumption)
                 obtain ⟨ad329, e329, hx329_0⟩ := ZI HR328_0.out 0 p329 q329
                 have hw329_0 := hx329_0
                 (try rw [show ((0 : Int)).toNat = 0 from rfl] at hw329_0)
                 (try rw [show 0 * 1 = 0 from rfl] at hw329_0)
                 (try rw [Addr.add_zero'] at hw329_0)
                 cases e329
                 have qi329 : (0 < (rd_L1 l0_1 x8_3).length) = True := eq_true (by omega)
                 (try rw [show ((0 : Int)).toNat = 0 from rfl] at hx329_0)
                 (try rw [Addr.add_zero'] at hx329_0)
                 replace hx329_0 := (HB.out.cell (World.block_lt_of_cell? w _ hx329_0)).trans hx329_0
                 replace p329 := eq_true p329
                 replace q329 := eq_true q329
                 have p330 : 0 ≤ ((rd (rd_L1 l0_1 x8_3) 0) : Int) := of_decide_eq_true (by first | (with_reducible assumption) | assumption)
                 have q330 : (rd (rd_L1 l0_1 x8_3) 0) < (l1.length : Int) := of_decide_eq_true (by first | (with_reducible assumption) | assumption)
                 obtain ⟨ad330, e330, hx330_0⟩ := ZI HR1.out (rd (rd_L1 l0_1 x8_3) 0) p330 q330
                 have hw330_0 := hx330_0
                 cases e330
                 replace hx330_0 := (HB.out.cell (World.block_lt_of_cell? w _ hx330_0)).trans hx330_0
                 replace p330 := eq_true p330
                 replace q330 := eq_true q330
                 have p331 : 0 ≤ (x8_3 : Int) := of_decide_eq_true (by first | (with_reducible assumption) | assumption)
                 have q331 : x8_3 < (l0_1.length : Int) := of_decide_eq_true (by first | (with_reducible assumption) | assumption)
                 obtain ⟨ad331, A331_0, c331_0, e331, hx331_0, hl331_0, hi331_0⟩ := at_L1 HR0_1.out x8_3 p331 q331
                 have hw331_0 := hx331_0
                 obtain rfl : ad328 = ad331 := (by injection e331)
                 replace hx331_0 := (HB.out.cell (World.block_lt_of_cell? w _ hx331_0)).trans hx331_0
                 have HR331_0 := Aside0.mk hi331_0
                 have HC331_0 := Aside0.mk hl331_0
                 clear hi331_0 hl331_0
                 replace p331 := eq_true p331
                 replace q331 := eq_true q331
                 have ea_ := Option.some.inj (hx328_0.symm.trans hx331_0)
                 injection ea_ with ea_ en_ ec_
                 subst ea_
                 subst ec_
                 clear en_
                 have p332 : 0 ≤ (1 : Int) := (by omega)
                 have q332 : 1 < ((rd_L1 l0_1 x8_3).length : Int) := of_decide_eq_true (by first | (with_reducible assumption) | assumption)
                 obtain ⟨ad332, e332, hx332_0⟩ := ZI HR331_0.out 1 p332 q332
                 have hw332_0 := hx332_0
                 (try rw [show ((1 : Int)).toNat = 1 from rfl] at hw332_0)
                 (try rw [show 1 * 1 = 1 from rfl] at hw332_0)
                 (try simp only [Nat.reduceMul, Nat.reduceEqDiff, Go.Addr.add, ↓reduceIte] at hw332_0)
                 cases e332
                 (try simp only [show (1 : Int).toNat = 1 from rfl, Nat.reduceMul, Nat.reduceEqDiff, Go.Addr.add, ↓reduceIte] at hx332_0)
                 have qi332 : (1 < (rd_L1 l0_1 x8_3).length) = True := eq_true (by omega)
                 (try rw [show ((1 : Int)).toNat = 1 from rfl] at hx332_0)
                 replace hx332_0 := (HB.out.cell (World.block_lt_of_cell? w _ hx332_0)).trans hx332_0
                 replace p332 := eq_true p332
                 replace q332 := eq_true q332
                 have p333 : 0 ≤ ((rd (rd_L1 l0_1 x8_3) 1) : Int) := of_decide_eq_true (by first | (with_reducible assumption) | assumption)
                 have q333 : (rd (rd_L1 l0_1 x8_3) 1) < (l1.length : Int) := of_decide_eq_true (by first | (with_reducible assumption) | assumption)
                 obtain ⟨ad333, e333, hx333_0⟩ := ZI HR1.out (rd (rd_L1 l0_1 x8_3) 1) p333 q333
                 have hw333_0 := hx333_0
                 obtain rfl : ad330 = ad333 := (by injection e333)
                 replace hx333_0 := (HB.out.cell (World.block_lt_of_cell? w _ hx333_0)).trans hx333_0
                 replace p333 := eq_true p333
                 replace q333 := eq_true q333
                 obtain ⟨Ao66, co66, eo66⟩ := Kd.S_slice HO_328001.out
                 (first | subst eo66 | (injection eo66 with f1_ f2_ f3_; have f4_ := f1_.symm; have f5_ := f3_.symm; clear f1_ f2_ f3_; subst f4_; subst f5_))
                 refine start_ (n := 26) (S := fun w' => w'.cell? ⟨gb327, 0, none⟩ = some (.int .i64 x328000_3) ∧ w'.cell? ⟨gb327, 1, none⟩ = some (.slice Ao66 x328001_3.length co66) ∧ w'.cell? ⟨gb307, 0, none⟩ = some (.int .i64 a0_0) ∧ w'.cell? ⟨gb307, 1, none⟩ = some (.slice (some ad328) l0_1.length c0_1) ∧ w'.cell? (ad328.add (x8_3).toNat) = some (.slice (some ad329) (rd_L1 l0_1 x8_3).length c328_0) ∧ w'.cell? ad329 = some (.int .i64 (rd (rd_L1 l0_1 x8_3) 0)) ∧ w'.cell? (ad330.add ((rd (rd_L1 l0_1 x8_3) 0)).toNat) = some (.int .i64 (rd l1 (rd (rd_L1 l0_1 x8_3) 0))) ∧ w'.cell? (ad328.add (x8_3).toNat) = some (.slice (some ad329) (rd_L1 l0_1 x8_3).length c328_0) ∧ w'.cell? ⟨ad329.block, ad329.off + 1, none⟩ = some (.int .i64 (rd (rd_L1 l0_1 x8_3) 1)) ∧ w'.cell? (ad330.add ((rd (rd_L1 l0_1 x8_3) 1)).toNat) = some (.int .i64 (rd l1 (rd (rd_L1 l0_1 x8_3) 1)))) (ds := [25]) #[O,O,O,O,O,O,O,O,O,O,O,O,O,O,O,O,O,O,O,O,O,O,O,O,O,O] (by kernel_rfl) rfl rfl ⟨(Zk BK327.out 0).trans rfl, (Zk BK327.out 1).trans rfl, (Zk BK307.out 0).trans rfl, (Zk BK307.out 1).trans rfl, ((HB.out.cell (World.block_lt_of_cell? w _ hw328_0)).trans hw328_0), ((HB.out.cell (World.block_lt_of_cell? w _ hw329_0)).trans hw329_0), ((HB.out.cell (World.block_lt_of_cell? w _ hw330_0)).trans hw330_0), ((HB.out.cell (World.block_lt_of_cell? w _ hw331_0)).trans hw331_0), ((HB.out.cell (World.block_lt_of_cell? w _ hw332_0)).trans hw332_0), ((HB.out.cell (World.block_lt_of_cell? w _ hw333_0)).trans hw333_0)⟩ (fun hHeld => ?_); refine with_tabW spec_Renamed.tab12 spec_Renamed.bits12 (fun HT_ HW_ => ?_)
                 generalize wr.drew = w65 at HO_328001 BK307 BK308 BK327 HB HR328_0 HR331_0 hx328_0 hx329_0 hx330_0 hx331_0 hx332_0 hx333_0 hHeld ⊢
                 refine Zx (i := 1) (N := some 60) (v := ?_) (a' := ?_) #[O,Y,O,O,O,O,O,O,O,O,O,O,O,O,O,O,O,O,O,O,O,O,O,O,O,O] rfl rfl (Zt HT_.out (by kernel_rfl)) (fun _ _ _ h => h) (Or.inl ⟨by rfl, ?_⟩) ?_ ?_
                 rotate_left
                 ·intro w'
                  go_simp
                  with_reducible rfl
                 rotate_left
                 ·simp only [Act.put, Za, Zb, Zc, Zq, Zr]
                  rfl
                 refine Zx (i := 2) (N := some 61) (v := ?_) (a' := ?_) #[O,Y,Y,O,O,O,O,O,O,O,O,O,O,O,O,O,O,O,O,O,O,O,O,O,O,O] rfl rfl (Zt HT_.out (by kernel_rfl)) (fun _ _ _ h => h) (Or.inl ⟨by rfl, ?_⟩) ?_ ?_
                 rotate_left
                 ·intro w'
                  go_simp
                  with_reducible rfl
                 rotate_left
                 ·simp only [Act.put, Za, Zb, Zc, Zq, Zr]
                  rfl
                 refine Zx (i := 4) (N := some 63) (v := ?_) (a' := ?_) #[O,Y,Y,O,Y,O,O,O,O,O,O,O,O,O,O,O,O,O,O,O,O,O,O,O,O,O] rfl rfl (Zt HT_.out (by kernel_rfl)) (fun _ _ _ h => h) (Or.inl ⟨by rfl, ?_⟩) ?_ ?_
                 rotate_left
                 ·intro w'
                  go_simp
                  with_reducible rfl
                 rotate_left
                 ·simp only [Act.put, Za, Zb, Zc, Zq, Zr]
                  rfl
                 refine Zx (i := 11) (N := some 70) (v := ?_) (a' := ?_) #[O,Y,Y,O,Y,O,O,O,O,O,O,Y,O,O,O,O,O,O,O,O,O,O,O,O,O,O] rfl rfl (Zt HT_.out (by kernel_rfl)) (fun _ _ _ h => h) (Or.inl ⟨by rfl, ?_⟩) ?_ ?_
                 rotate_left
                 ·intro w'
                  go_simp
                  with_reducible rfl
                 rotate_left
                 ·simp only [Act.put, Za, Zb, Zc, Zq, Zr]
                  rfl
                 refine Zx (i := 12) (N := some 71) (v := ?_) (a' := ?_) #[O,Y,Y,O,Y,O,O,O,O,O,O,Y,Y,O,O,O,O,O,O,O,O,O,O,O,O,O] rfl rfl (Zt HT_.out (by kernel_rfl)) (fun _ _ _ h => h) (Or.inl ⟨by rfl, ?_⟩) ?_ ?_
                 rotate_left
                 ·intro w'
                  go_simp
                  with_reducible rfl
                 rotate_left
                 ·simp only [Act.put, Za, Zb, Zc, Zq, Zr]
                  rfl
                 refine Zx (i := 14) (N := some 73) (v := ?_) (a' := ?_) #[O,Y,Y,O,Y,O,O,O,O,O,O,Y,Y,O,Y,O,O,O,O,O,O,O,O,O,O,O] rfl rfl (Zt HT_.out (by kernel_rfl)) (fun _ _ _ h => h) (Or.inl ⟨by rfl, ?_⟩) ?_ ?_
                 rotate_left
                 ·intro w'
                  go_simp
                  with_reducible rfl
                 rotate_left
                 ·simp only [Act.put, Za, Zb, Zc, Zq, Zr]
                  rfl
                 refine take_ (i := 0) (N := some 59) (v := ?_) (a' := ?_) #[Y,Y,Y,O,Y,O,O,O,O,O,O,Y,Y,O,Y,O,O,O,O,O,O,O,O,O,O,O] rfl rfl (take_ofW HT_.out HW_.out (by kernel_rfl)) (fun _ _ _ h => h) (Or.inl ⟨by rfl, ?_⟩) hHeld ?_ ?_
                 rotate_left
                 ·rintro w' ⟨s0, s1, s2, s3, s4, s5, s6, s7, s8, s9⟩
                  go_simp
                  with_reducible rfl
                 rotate_left
                 ·simp only [Act.put, Za, Zb, Zc, Zq, Zr]
                  rfl
                 refine take_ (i := 3) (N := some 62) (v := ?_) (a' := ?_) #[Y,Y,Y,Y,Y,O,O,O,O,O,O,Y,Y,O,Y,O,O,O,O,O,O,O,O,O,O,O] rfl rfl (take_ofW HT_.out HW_.out (by kernel_rfl)) (fun _ _ _ h => h) (Or.inl ⟨by rfl, ?_⟩) hHeld ?_ ?_
                 rotate_left
                 ·rintro w' ⟨s0, s1, s2, s3, s4, s5, s6, s7, s8, s9⟩
                  go_simp
                  with_reducible rfl
                 rotate_left
                 ·simp only [Act.put, Za, Zb, Zc, Zq, Zr]
                  rfl
                 refine Zx (i := 5) (N := some 64) (v := ?_) (a' := ?_) #[Y,Y,Y,Y,Y,Y,O,O,O,O,O,Y,Y,O,Y,O,O,O,O,O,O,O,O,O,O,O] rfl rfl (Zt HT_.out (by kernel_rfl)) (fun _ _ _ h => h) (Or.inl ⟨by rfl, ?_⟩) ?_ ?_
                 rotate_left
                 ·intro w'
                  go_simp
                  with_reducible rfl
                 rotate_left
                 ·simp only [Act.put, Za, Zb, Zc, Zq, Zr]
                  rfl
                 refine take_ (i := 6) (N := some 65) (v := ?_) (a' := ?_) #[Y,Y,Y,Y,Y,Y,Y,O,O,O,O,Y,Y,O,Y,O,O,O,O,O,O,O,O,O,O,O] rfl rfl (take_ofW HT_.out HW_.out (by kernel_rfl)) (fun _ _ _ h => h) (Or.inl ⟨by rfl, ?_⟩) hHeld ?_ ?_
                 rotate_left
                 ·rintro w' ⟨s0, s1, s2, s3, s4, s5, s6, s7, s8, s9⟩
                  go_simp
                  with_reducible rfl
                 rotate_left
                 ·simp only [Act.put, Za, Zb, Zc, Zq, Zr]
                  rfl
                 refine Zx (i := 7) (N := some 66) (v := ?_) (a' := ?_) #[Y,Y,Y,Y,Y,Y,Y,Y,O,O,O,Y,Y,O,Y,O,O,O,O,O,O,O,O,O,O,O] rfl rfl (Zt HT_.out (by kernel_rfl)) (fun _ _ _ h => h) (Or.inl ⟨by rfl, ?_⟩) ?_ ?_
                 rotate_left
                 ·intro w'
                  go_simp
                  with_reducible rfl
                 rotate_left
                 ·simp only [Act.put, Za, Zb, Zc, Zq, Zr]
                  rfl
                 refine take_ (i := 8) (N := some 67) (v := ?_) (a' := ?_) #[Y,Y,Y,Y,Y,Y,Y,Y,Y,O,O,Y,Y,O,Y,O,O,O,O,O,O,O,O,O,O,O] rfl rfl (take_ofW HT_.out HW_.out (by kernel_rfl)) (fun _ _ _ h => h) (Or.inl ⟨by rfl, ?_⟩) hHeld ?_ ?_
                 rotate_left
                 ·rintro w' ⟨s0, s1, s2, s3, s4, s5, s6, s7, s8, s9⟩
                  go_simp
                  with_reducible rfl
                 rotate_left
                 ·simp only [Act.put, Za, Zb, Zc, Zq, Zr]
                  rfl
                 refine Zx (i := 9) (N := some 68) (v := ?_) (a' := ?_) #[Y,Y,Y,Y,Y,Y,Y,Y,Y,Y,O,Y,Y,O,Y,O,O,O,O,O,O,O,O,O,O,O] rfl rfl (Zt HT_.out (by kernel_rfl)) (fun _ _ _ h => h) (Or.inl ⟨by rfl, ?_⟩) ?_ ?_
                 rotate_left
                 ·intro w'
                  go_simp
                  with_reducible rfl
                 rotate_left
                 ·simp only [Act.put, Za, Zb, Zc, Zq, Zr]
                  rfl
                 refine take_ (i := 10) (N := some 69) (v := ?_) (a' := ?_) #[Y,Y,Y,Y,Y,Y,Y,Y,Y,Y,Y,Y,Y,O,Y,O,O,O,O,O,O,O,O,O,O,O] rfl rfl (take_ofW HT_.out HW_.out (by kernel_rfl)) (fun _ _ _ h => h) (Or.inl ⟨by rfl, ?_⟩) hHeld ?_ ?_
                 rotate_left
                 ·rintro w' ⟨s0, s1, s2, s3, s4, s5, s6, s7, s8, s9⟩
                  go_simp
                  with_reducible rfl
                 rotate_left
                 ·simp only [Act.put, Za, Zb, Zc, Zq, Zr]
                  rfl
                 refine take_ (i := 13) (N := some 72) (v := ?_) (a' := ?_) #[Y,Y,Y,Y,Y,Y,Y,Y,Y,Y,Y,Y,Y,Y,Y,O,O,O,O,O,O,O,O,O,O,O] rfl rfl (take_ofW HT_.out HW_.out (by kernel_rfl)) (fun _ _ _ h => h) (Or.inl ⟨by rfl, ?_⟩) hHeld ?_ ?_
                 rotate_left
                 ·rintro w' ⟨s0, s1, s2, s3, s4, s5, s6, s7, s8, s9⟩
                  go_simp
                  with_reducible rfl
                 rotate_left
                 ·simp only [Act.put, Za, Zb, Zc, Zq, Zr]
                  rfl
                 refine Zx (i := 15) (N := some 74) (v := ?_) (a' := ?_) #[Y,Y,Y,Y,Y,Y,Y,Y,Y,Y,Y,Y,Y,Y,Y,Y,O,O,O,O,O,O,O,O,O,O] rfl rfl (Zt HT_.out (by kernel_rfl)) (fun _ _ _ h => h) (Or.inl ⟨by rfl, ?_⟩) ?_ ?_
                 rotate_left
                 ·intro w'
                  go_simp
                  with_reducible rfl
                 rotate_left
                 ·simp only [Act.put, Za, Zb, Zc, Zq, Zr]
                  rfl
                 refine take_ (i := 16) (N := some 75) (v := ?_) (a' := ?_) #[Y,Y,Y,Y,Y,Y,Y,Y,Y,Y,Y,Y,Y,Y,Y,Y,Y,O,O,O,O,O,O,O,O,O] rfl rfl (take_ofW HT_.out HW_.out (by kernel_rfl)) (fun _ _ _ h => h) (Or.inl ⟨by rfl, ?_⟩) hHeld ?_ ?_
                 rotate_left
                 ·rintro w' ⟨s0, s1, s2, s3, s4, s5, s6, s7, s8, s9⟩
                  go_simp
                  with_reducible rfl
                 rotate_left
                 ·simp only [Act.put, Za, Zb, Zc, Zq, Zr]
                  rfl
                 refine Zx (i := 17) (N := some 76) (v := ?_) (a' := ?_) #[Y,Y,Y,Y,Y,Y,Y,Y,Y,Y,Y,Y,Y,Y,Y,Y,Y,Y,O,O,O,O,O,O,O,O] rfl rfl (Zt HT_.out (by kernel_rfl)) (fun _ _ _ h => h) (Or.inl ⟨by rfl, ?_⟩) ?_ ?_
                 rotate_left
                 ·intro w'
                  go_simp
                  with_reducible rfl
                 rotate_left
                 ·simp only [Act.put, Za, Zb, Zc, Zq, Zr]
                  rfl
                 refine take_ (i := 18) (N := some 77) (v := ?_) (a' := ?_) #[Y,Y,Y,Y,Y,Y,Y,Y,Y,Y,Y,Y,Y,Y,Y,Y,Y,Y,Y,O,O,O,O,O,O,O] rfl rfl (take_ofW HT_.out HW_.out (by kernel_rfl)) (fun _ _ _ h => h) (Or.inl ⟨by rfl, ?_⟩) hHeld ?_ ?_
                 rotate_left
                 ·rintro w' ⟨s0, s1, s2, s3, s4, s5, s6, s7, s8, s9⟩
                  go_simp
                  with_reducible rfl
                 rotate_left
                 ·simp only [Act.put, Za, Zb, Zc, Zq, Zr]
                  rfl
                 refine Zx (i := 19) (N := some 78) (v := ?_) (a' := ?_) #[Y,Y,Y,Y,Y,Y,Y,Y,Y,Y,Y,Y,Y,Y,Y,Y,Y,Y,Y,Y,O,O,O,O,O,O] rfl rfl (Zt HT_.out (by kernel_rfl)) (fun _ _ _ h => h) (Or.inl ⟨by rfl, ?_⟩) ?_ ?_
                 rotate_left
                 ·intro w'
                  go_simp
                  with_reducible rfl
                 rotate_left
                 ·simp only [Act.put, Za, Zb, Zc, Zq, Zr]
                  rfl
                 refine take_ (i := 20) (N := some 79) (v := ?_) (a' := ?_) #[Y,Y,Y,Y,Y,Y,Y,Y,Y,Y,Y,Y,Y,Y,Y,Y,Y,Y,Y,Y,Y,O,O,O,O,O] rfl rfl (take_ofW HT_.out HW_.out (by kernel_rfl)) (fun _ _ _ h => h) (Or.inl ⟨by rfl, ?_⟩) hHeld ?_ ?_
                 rotate_left
                 ·rintro w' ⟨s0, s1, s2, s3, s4, s5, s6, s7, s8, s9⟩
                  go_simp
                  with_reducible rfl
                 rotate_left
                 ·simp only [Act.put, Za, Zb, Zc, Zq, Zr]
                  rfl
                 refine one_ (i := 21) (N := some 80) #[Y,Y,Y,Y,Y,Y,Y,Y,Y,Y,Y,Y,Y,Y,Y,Y,Y,Y,Y,Y,Y,Y,O,O,O,O] rfl rfl (one_of HT_.out (by kernel_rfl)) (by decide) (fun K hK => ?_)
                 refine goes_ Try.func102 (by kernel_rfl) rfl #[.agg #[.int .i64 x328000_3, .slice Ao66 x328001_3.length co66], .int .i64 (rd l1 (rd (rd_L1 l0_1 x8_3) 0)), .int .i64 (rd l1 (rd (rd_L1 l0_1 x8_3) 1))] (by rfl) rfl rfl (by (try simp only [List.map_toArray, List.map_cons, List.map_nil]); first | done | rfl | (simp only [List.length_drop, List.length_take]; rfl)) ?_
                 with_reducible refine (spec_AddAttack.calls k3 x328000_3 _ _ x328001_3 (rd l1 (rd (rd_L1 l0_1 x8_3) 0)) (rd l1 (rd (rd_L1 l0_1 x8_3) 1)) t334 t335 t338 _ ?side1 ?side2 A61.out).mono ?_
                 (case side1 => repeat (first | exact (ZF HO_328001.out).2.2 | (with_reducible refine Zw ?_ _) | (with_reducible refine Zv ?_ _) | (with_reducible refine Zz ?_)))
                 (case side2 => exact (ZF HO_328001.out).2.1)
                 rintro e w67 ⟨v336, rfl, ho0, hb⟩
                 refine ⟨_, rfl, ?_⟩
                 have n0_ := Aside0.mk (ZK (by (with_reducible repeat (first | apply Zn | apply Zm | apply Zo)); exact HO_328001.out) (Kd.S_base ho0) hb)
                 have n1_ := Aside0.mk (Kd.S_lower (Kd.S_new' ho0 (Kd.S_lt (by (with_reducible repeat (first | apply Zn | apply Zm | apply Zo)); exact HO_328001.out))) (Zs (by repeat (first | (with_reducible first | exact HB.out | apply Zj | apply Ze | apply Zi | refine Zd ?_ GE307.out | refine Zd ?_ GE308.out | refine Zd ?_ GE327.out) | exact HB.out))))
                 have n2_ := Aside0.mk (Zp (g := gb307) (o := .cells #[.int .i64 a0_0, .slice (some ad328) l0_1.length c0_1] 27 (0, 0)) (by (with_reducible repeat (first | refine Zg ?_ _ | refine Zh ?_ | refine Zf ?_ _)); exact BK307.out) hb)
                 have n3_ := Aside0.mk (Zp (g := gb308) (o := .cells #[.int .i64 x309000_2, .slice none 0 0] 27 (0, 0)) (by (with_reducible repeat (first | refine Zg ?_ _ | refine Zh ?_ | refine Zf ?_ _)); exact BK308.out) hb)
                 have n4_ := Aside0.mk (Zp (g := gb327) (o := .cells #[.int .i64 x328000_3, .slice Ao66 x328001_3.length co66] 27 (0, 0)) (by (with_reducible repeat (first | refine Zg ?_ _ | refine Zh ?_ | refine Zf ?_ _)); exact BK327.out) hb)
                 have n5_ := Aside0.mk (Zu (by repeat (first | (with_reducible first | exact HB.out | apply Zj | apply Ze | apply Zi | refine Zd ?_ GE307.out | refine Zd ?_ GE308.out | refine Zd ?_ GE327.out) | exact HB.out)) hb)
                 clear HO_328001
                 clear BK307
                 clear BK308
                 clear BK327
                 clear HB
                 have HO_328001 := n0_
                 have HO337 := n1_
                 have BK307 := n2_
                 have BK308 := n3_
                 have BK327 := n4_
                 have HB := n5_
                 clear n0_ n1_ n2_ n3_ n4_ n5_
                 (try clear hb)
                 (try clear hb2)
                 (try clear hk)
                 (try clear hi)
                 (try clear ho0)
                 obtain ⟨Ao69, co69, eo69⟩ := Kd.S_slice HO337.out
                 (first | subst eo69 | (injection eo69 with f1_ f2_ f3_; have f4_ := f1_.symm; have f5_ := f3_.symm; clear f1_ f2_ f3_; subst f4_; subst f5_))
                 refine hK.out _ _ ⟨(Zk BK327.out 0).trans rfl, (Zk BK327.out 1).trans rfl, (Zk BK307.out 0).trans rfl, (Zk BK307.out 1).trans rfl, ((HB.out.cell (World.block_lt_of_cell? w _ hw328_0)).trans hw328_0), ((HB.out.cell (World.block_lt_of_cell? w _ hw329_0)).trans hw329_0), ((HB.out.cell (World.block_lt_of_cell? w _ hw330_0)).trans hw330_0), ((HB.out.cell (World.block_lt_of_cell? w _ hw331_0)).trans hw331_0), ((HB.out.cell (World.block_lt_of_cell? w _ hw332_0)).trans hw332_0), ((HB.out.cell (World.block_lt_of_cell? w _ hw333_0)).trans hw333_0)⟩ (fun hHeld => ?_)
                 clear hK K
                 refine norm_ (a' := ?_) ?_ ?_
                 rotate_left
                 ·show Act.put _ (some 80) _ = _
                  simp only [Act.put, Za, Zb, Zc, Zq, Zr]
                  rfl
                 refine Zx (i := 22) (N := some 58) (v := ?_) (a' := ?_) #[Y,Y,Y,Y,Y,Y,Y,Y,Y,Y,Y,Y,Y,Y,Y,Y,Y,Y,Y,Y,Y,Y,Y,O,O,O] rfl rfl (Zt HT_.out (by kernel_rfl)) (fun _ _ _ h => h) (Or.inl ⟨by rfl, ?_⟩) ?_ ?_
                 rotate_left
                 ·intro w'
                  go_simp
                  with_reducible rfl
                 rotate_left
                 ·simp only [Act.put, Za, Zb, Zc, Zq, Zr]
                  rfl
                 refine Zx (i := 23) (N := some 81) (v := ?_) (a' := ?_) #[Y,Y,Y,Y,Y,Y,Y,Y,Y,Y,Y,Y,Y,Y,Y,Y,Y,Y,Y,Y,Y,Y,Y,Y,O,O] rfl rfl (Zt HT_.out (by kernel_rfl)) (fun _ _ _ h => h) (Or.inl ⟨by rfl, ?_⟩) ?_ ?_
                 rotate_left
                 ·intro w'
                  go_simp
                  with_reducible rfl
                 rotate_left
                 ·simp only [Act.put, Za, Zb, Zc, Zq, Zr]
                  rfl
                 refine Zx (i := 24) (N := some 82) (v := ?_) (a' := ?_) #[Y,Y,Y,Y,Y,Y,Y,Y,Y,Y,Y,Y,Y,Y,Y,Y,Y,Y,Y,Y,Y,Y,Y,Y,Y,O] rfl rfl (Zt HT_.out (by kernel_rfl)) (fun _ _ _ h => h) (Or.inl ⟨by rfl, ?_⟩) ?_ ?_
                 rotate_left
                 ·intro w'
                  go_simp
                  with_reducible rfl
                 rotate_left
                 ·simp only [Act.put, Za, Zb, Zc, Zq, Zr]
                  rfl
                 refine last_ (i := 25) (N := none) #[Y,Y,Y,Y,Y,Y,Y,Y,Y,Y,Y,Y,Y,Y,Y,Y,Y,Y,Y,Y,Y,Y,Y,Y,Y,Y] rfl rfl (one_of HT_.out (by kernel_rfl)) (by decide) (fun K hK => ?_)
                 have hs68 : w67.cell? ⟨gb327, 0, none⟩ = some (.int .i64 x328000_3) := (Zk BK327.out 0).trans rfl
                 have hfs68 := Zl BK327.out 0
                 have hns68_0 := NB307_327.out
                 have hns68_1 := NB308_327.out
                 have hms68_0 := NB327_307.out
                 have hms68_1 := NB327_308.out
                 have hs70 : w67.cell? ⟨gb327, 1, none⟩ = some (.slice Ao66 x328001_3.length co66) := (Zk BK327.out 1).trans rfl
                 have hfs70 := Zl BK327.out 1
                 have hns70_0 := NB307_327.out
                 have hns70_1 := NB308_327.out
                 have hms70_0 := NB327_307.out
                 have hms70_1 := NB327_308.out
                 refine skip_ (w1 := ?_) (by rfl) rfl ?_ ?_
                 rotate_left
                 ·go_simp
                  rfl
                 refine hK.out _ _ ?_
                 clear hK K
                 refine done_ (done_of HT_.out (by kernel_rfl)) ?_
                 try go_wp2
                 go_roundg k3
                 case measure => have := HJ2.out; have := HK2.out; have := HK3.out; omega
                 case rel => exact ⟨(wrap64 (x8_3 + 1)), (t334), (t335), (.slice Ao69 t335.length co69), (by first | rfl | (simp; done) | (simp [*]; done)), H', ⟨by have := HJ2.out; have := HK2.out; have := HK3.out; omega⟩, ⟨by (with_reducible repeat (first | apply Zn | apply Zm | apply Zo)); exact Zy (ZB (p := ⟨gb327, 1, none⟩) (ZB (p := ⟨gb327, 0, none⟩) (ZJ HO337.out BK327.out (by decide)) (fun _ hk => hk.2) (.int .i64 t334)) (fun _ hk => hk.2) (.slice Ao69 t335.length co69)) (fun _ hk => trivial)⟩, ⟨by (with_reducible repeat (first | refine Zg ?_ _ | refine Zh ?_ | refine Zf ?_ _)); refine ZP ?_ NB307_327.out _; (with_reducible repeat (first | refine Zg ?_ _ | refine Zh ?_ | refine Zf ?_ _)); refine ZP ?_ NB307_327.out _; (with_reducible repeat (first | refine Zg ?_ _ | refine Zh ?_ | refine Zf ?_ _)); exact BK307.out⟩, ⟨by (with_reducible repeat (first | refine Zg ?_ _ | refine Zh ?_ | refine Zf ?_ _)); refine ZP ?_ NB308_327.out _; (with_reducible repeat (first | refine Zg ?_ _ | refine Zh ?_ | refine Zf ?_ _)); refine ZP ?_ NB308_327.out _; (with_reducible repeat (first | refine Zg ?_ _ | refine Zh ?_ | refine Zf ?_ _)); exact BK308.out⟩, ⟨by (with_reducible repeat (first | refine Zg ?_ _ | refine Zh ?_ | refine Zf ?_ _)); refine blk_put (cs := #[.int .i64 t334, .slice Ao66 x328001_3.length co66]) ?_ 1 _ rfl; (with_reducible repeat (first | refine Zg ?_ _ | refine Zh ?_ | refine Zf ?_ _)); refine blk_put (cs := #[.int .i64 x328000_3, .slice Ao66 x328001_3.length co66]) ?_ 0 _ rfl; (with_reducible repeat (first | refine Zg ?_ _ | refine Zh ?_ | refine Zf ?_ _)); exact BK327.out⟩, ⟨by repeat (first | (with_reducible first | exact HB.out | apply Zj | apply Ze | apply Zi | refine Zd ?_ GE307.out | refine Zd ?_ GE308.out | refine Zd ?_ GE327.out) | exact HB.out)⟩⟩
                ·rw [if_neg c60] at H
                 exact absurd H (by simp)
               ·rw [if_neg c59] at H
                exact absurd H (by simp)
              ·rw [if_neg c58] at H
               exact absurd H (by simp)
             ·rw [if_neg c57] at H
              exact absurd H (by simp)
            ·rw [if_neg c56] at H
             exact absurd H (by simp)
           ·rw [if_neg c55] at H
            exact absurd H (by simp)
          ·rw [if_neg c54] at H
           exact absurd H (by simp)
         ·rw [if_neg c53] at H
          have c53b0 : decide (x8_3 < (l0_1.length : Int)) = false := decide_eq_false c53
          clear c53
          simp only [Option.some.injEq, Prod.mk.injEq] at H
          obtain ⟨rfl, rfl, rfl⟩ := H
          have hnb71 := NB307_308.out
          have hnc71 := NB308_307.out
          have hnb72 := NB307_327.out
          have hnc72 := NB327_307.out
          have hcz73_0 : wr.cell? ⟨gb307, 0, none⟩ = some (.int .i64 a0_0) := (Zk BK307.out 0).trans rfl
          have hcz73_1 : wr.cell? ⟨gb307, 1, none⟩ = some (.slice A0_1 l0_1.length c0_1) := (Zk BK307.out 1).trans rfl
          have hfz73_0 := Zl BK307.out 0
          have hfz73_1 := Zl BK307.out 1
          have hnb74 := NB327_308.out
          have hnc74 := NB308_327.out
          have hcz75_0 : wr.cell? ⟨gb327, 0, none⟩ = some (.int .i64 x328000_3) := (Zk BK327.out 0).trans rfl
          have hcz75_1 : wr.cell? ⟨gb327, 1, none⟩ = some (u328001) := (Zk BK327.out 1).trans rfl
          have hfz75_0 := Zl BK327.out 0
          have hfz75_1 := Zl BK327.out 1
          have hcz76_0 : wr.cell? ⟨gb308, 0, none⟩ = some (.int .i64 x309000_2) := (Zk BK308.out 0).trans rfl
          have hcz76_1 : wr.cell? ⟨gb308, 1, none⟩ = some (.slice none 0 0) := (Zk BK308.out 1).trans rfl
          have hfz76_0 := Zl BK308.out 0
          have hfz76_1 := Zl BK308.out 1
          obtain ⟨Ao77, co77, eo77⟩ := Kd.S_slice HO_328001.out
          subst eo77
          go_wp2
          refine bodyPost_ret (results_ct rfl _ _ gb308 27 #[.int .i64 x328000_3, .slice Ao77 x328001_3.length co77] (0, 0) _ rfl (by (with_reducible repeat (first | refine Zg ?_ _ | refine Zh ?_ | refine Zf ?_ _)); refine blk_put (cs := #[.int .i64 x328000_3, .slice none 0 0]) ?_ 1 _ rfl; (with_reducible repeat (first | refine Zg ?_ _ | refine Zh ?_ | refine Zf ?_ _)); refine blk_put (cs := #[.int .i64 x309000_2, .slice none 0 0]) ?_ 0 _ rfl; (with_reducible repeat (first | refine Zg ?_ _ | refine Zh ?_ | refine Zf ?_ _)); exact BK308.out) Try.underlying27 rfl (by kernel_rfl)) rfl ?_
          exact ⟨_, by first | rfl | (simp [errW_none, errW_some] <;> rfl) | (simp [*, errW_none, errW_some] <;> rfl), by (with_reducible repeat (first | apply Zn | apply Zm | apply Zo)); exact Zy (ZB (p := ⟨gb308, 1, none⟩) (ZB (p := ⟨gb308, 0, none⟩) (ZJ HO_328001.out BK308.out (by decide)) (fun _ hk => hk.2) (.int .i64 x328000_3)) (fun _ hk => hk.2) (.slice Ao77 x328001_3.length co77)) (fun _ hk => trivial), by repeat (first | (with_reducible first | exact HB.out | apply Zj | apply Ze | apply Zi | refine Zd ?_ GE307.out | refine Zd ?_ GE308.out | refine Zd ?_ GE327.out) | exact HB.out)⟩

end Go.Proofs.Ytdlobolnajcfnaa.PFnExactRenamed
