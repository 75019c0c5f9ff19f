-- Written by a program of this session (hooks of mine on the print): Lean checks it.
import Derived.Test.YtdlobolnajcfnaaPFnExactRenamedx0
import Derived.Test.YtdlobolnajcfnaaPFnExactRenamedx2
import Derived.Test.YtdlobolnajcfnaaPFnExactRenamedx3
import Derived.Test.YtdlobolnajcfnaaPFnExactRenamedx4
namespace Go.Proofs.Ytdlobolnajcfnaa.PFnExactRenamed
open Go.RowKit Go.Proofs.YtdlobolnajcfnaaW.PrintWords Go.Proofs.YtdlobolnajcfnaaW.PrintLast Go.Proofs.YtdlobolnajcfnaaW.PrintMore
attribute [local go_sem] max2_int min2_int max_two min_two max_three min_three max_four min_four   -- for this text's walks alone
set_option linter.unusedVariables false
set_option linter.unusedSimpArgs false

/-! ### impl_Renamed: function 48 -/
mutual
def impl_Renamed.j0 : Nat → List Int → Bool → Int → List (List Int) → Option (Int × (List (List Int)) × Bool)
 | 0, _, _, _, _ => none
 | k + 1, x1, x20, x164000, x164001 => if x20 = true then ((impl_cloneGraph.f k x164000 x164001).bind fun bt166 => (some (bt166.1, bt166.2, false))) else (impl_Renamed.l0 k x1 x1 (x1.length : Int) 0 x164000 x164001)
def impl_Renamed.l0 : Nat → List Int → List Int → Int → Int → Int → List (List Int) → Option (Int × (List (List Int)) × Bool)
 | 0, _, _, _, _, _, _ => none
 | k + 1, x1, x23, x24, x25, x164000, x164001 => if x25 < x24 then (if 0 ≤ x25 then (if x25 < (x23.length : Int) then ((impl_isClaim.f x164000 x164001 (rd x23 x25)).bind fun t171 => (if t171 = true then (if x25 ≤ (x1.length : Int) then ((slices_Contains_int_int.f k (x1.take (x25 : Int).toNat) (rd x23 x25)).bind fun t173 => (if t173 = true then ((impl_cloneGraph.f k x164000 x164001).bind fun bt174 => (some (bt174.1, bt174.2, false))) else (impl_Renamed.l0 k x1 x23 x24 (wrap64 (x25 + 1)) x164000 x164001))) else (none)) else ((impl_cloneGraph.f k x164000 x164001).bind fun bt178 => (some (bt178.1, bt178.2, false))))) else (none)) else (none)) else (impl_Renamed.l1 k x1 x164001 (x164001.length : Int) 0 x164000 (([] : List (List Int))))
def impl_Renamed.l1 : Nat → List Int → List (List Int) → Int → Int → Int → List (List Int) → Option (Int × (List (List Int)) × Bool)
 | 0, _, _, _, _, _, _ => none
 | k + 1, x1, x49, x50, x51, x186000, x186001 => if x51 < x50 then (if 0 ≤ x51 then (if x51 < (x49.length : Int) then (if 0 < ((rd_L1 x49 x51).length : Int) then (if 0 ≤ (rd (rd_L1 x49 x51) 0) then (if (rd (rd_L1 x49 x51) 0) < (x1.length : Int) then (if 1 < ((rd_L1 x49 x51).length : Int) then (if 0 ≤ (rd (rd_L1 x49 x51) 1) then (if (rd (rd_L1 x49 x51) 1) < (x1.length : Int) then (if x186001.length < 5864062014805 then (impl_Renamed.l1 k x1 x49 x50 (wrap64 (x51 + 1)) x186000 (x186001 ++ [(([rd x1 (rd (rd_L1 x49 x51) 0), rd x1 (rd (rd_L1 x49 x51) 1)] : List Int))])) else (none)) else (none)) else (none)) else (none)) else (none)) else (none)) else (none)) else (none)) else (none)) else ((slices_SortFunc_int_int.f k x186001 67).bind fun t197 => (some (x186000, t197, true)))
end
def impl_Renamed.f (k : Nat) (a0_0 : Int) (l0_1 : List (List Int)) (l1 : List Int) : Option (Int × (List (List Int)) × Bool) := (impl_IsGraph.f k a0_0 l0_1).bind fun t165 => (if t165 = true then (impl_Renamed.j0 k l1 ((l1.length : Int) != a0_0) a0_0 l0_1) else (impl_Renamed.j0 k l1 true a0_0 l0_1))
theorem impl_Renamed.mono_l : ∀ k, (∀ y0 y1 y2 y3, LeO (impl_Renamed.j0 k y0 y1 y2 y3) (impl_Renamed.j0 (k + 1) y0 y1 y2 y3)) ∧ (∀ y0 y1 y2 y3 y4 y5, LeO (impl_Renamed.l0 k y0 y1 y2 y3 y4 y5) (impl_Renamed.l0 (k + 1) y0 y1 y2 y3 y4 y5)) ∧ (∀ y0 y1 y2 y3 y4 y5, LeO (impl_Renamed.l1 k y0 y1 y2 y3 y4 y5) (impl_Renamed.l1 (k + 1) y0 y1 y2 y3 y4 y5))
 | 0 => ⟨fun _ _ _ _ r h => by simp [impl_Renamed.j0] at h, fun _ _ _ _ _ _ r h => by simp [impl_Renamed.l0] at h, fun _ _ _ _ _ _ r h => by simp [impl_Renamed.l1] at h⟩
 | k + 1 => by
  obtain ⟨ih0, ih1, ih2⟩ := impl_Renamed.mono_l k
  refine ⟨?_, ?_, ?_⟩
  ·intro y0 y1 y2 y3
   unfold impl_Renamed.j0
   repeat' first
   | (with_reducible exact ih0 _ _ _ _)
   | (with_reducible exact ih1 _ _ _ _ _ _)
   | (with_reducible exact ih2 _ _ _ _ _ _)
   | (with_reducible exact impl_IsGraph.mono _ _ _)
   | (with_reducible exact impl_cloneGraph.mono _ _ _)
   | (with_reducible exact slices_Contains_int_int.mono _ _ _)
   | (with_reducible exact slices_SortFunc_int_int.mono _ _ _)
   | (with_reducible exact LeO.refl _)
   | (with_reducible exact ZE _)
   | (with_reducible refine ZH ?_ ?_)
   | (with_reducible refine ZD ?_ (fun _ => ?_))
   | exact ih0 _ _ _ _
   | exact ih1 _ _ _ _ _ _
   | exact ih2 _ _ _ _ _ _
   | exact impl_IsGraph.mono _ _ _
   | exact impl_cloneGraph.mono _ _ _
   | exact slices_Contains_int_int.mono _ _ _
   | exact slices_SortFunc_int_int.mono _ _ _
   | exact ZE _
   | refine ZH ?_ ?_
   | refine ZD ?_ (fun _ => ?_)
  ·intro y0 y1 y2 y3 y4 y5
   unfold impl_Renamed.l0
   repeat' first
   | (with_reducible exact ih0 _ _ _ _)
   | (with_reducible exact ih1 _ _ _ _ _ _)
   | (with_reducible exact ih2 _ _ _ _ _ _)
   | (with_reducible exact impl_IsGraph.mono _ _ _)
   | (with_reducible exact impl_cloneGraph.mono _ _ _)
   | (with_reducible exact slices_Contains_int_int.mono _ _ _)
   | (with_reducible exact slices_SortFunc_int_int.mono _ _ _)
   | (with_reducible exact LeO.refl _)
   | (with_reducible exact ZE _)
   | (with_reducible refine ZH ?_ ?_)
   | (with_reducible refine ZD ?_ (fun _ => ?_))
   | exact ih0 _ _ _ _
   | exact ih1 _ _ _ _ _ _
   | exact ih2 _ _ _ _ _ _
   | exact impl_IsGraph.mono _ _ _
   | exact impl_cloneGraph.mono _ _ _
   | exact slices_Contains_int_int.mono _ _ _
   | exact slices_SortFunc_int_int.mono _ _ _
   | exact ZE _
   | refine ZH ?_ ?_
   | refine ZD ?_ (fun _ => ?_)
  ·intro y0 y1 y2 y3 y4 y5
   unfold impl_Renamed.l1
   repeat' first
   | (with_reducible exact ih0 _ _ _ _)
   | (with_reducible exact ih1 _ _ _ _ _ _)
   | (with_reducible exact ih2 _ _ _ _ _ _)
   | (with_reducible exact impl_IsGraph.mono _ _ _)
   | (with_reducible exact impl_cloneGraph.mono _ _ _)
   | (with_reducible exact slices_Contains_int_int.mono _ _ _)
   | (with_reducible exact slices_SortFunc_int_int.mono _ _ _)
   | (with_reducible exact LeO.refl _)
   | (with_reducible exact ZE _)
   | (with_reducible refine ZH ?_ ?_)
   | (with_reducible refine ZD ?_ (fun _ => ?_))
   | exact ih0 _ _ _ _
   | exact ih1 _ _ _ _ _ _
   | exact ih2 _ _ _ _ _ _
   | exact impl_IsGraph.mono _ _ _
   | exact impl_cloneGraph.mono _ _ _
   | exact slices_Contains_int_int.mono _ _ _
   | exact slices_SortFunc_int_int.mono _ _ _
   | exact ZE _
   | refine ZH ?_ ?_
   | refine ZD ?_ (fun _ => ?_)
theorem impl_Renamed.mono : ∀ a0 a1 a2 k, LeO (impl_Renamed.f k a0 a1 a2) (impl_Renamed.f (k + 1) a0 a1 a2) := by
 intro a0 a1 a2 k
 obtain ⟨ih0, ih1, ih2⟩ := impl_Renamed.mono_l k
 unfold impl_Renamed.f
 repeat' first
   | (with_reducible exact ih0 _ _ _ _)
   | (with_reducible exact ih1 _ _ _ _ _ _)
   | (with_reducible exact ih2 _ _ _ _ _ _)
   | (with_reducible exact impl_IsGraph.mono _ _ _)
   | (with_reducible exact impl_cloneGraph.mono _ _ _)
   | (with_reducible exact slices_Contains_int_int.mono _ _ _)
   | (with_reducible exact slices_SortFunc_int_int.mono _ _ _)
   | (with_reducible exact LeO.refl _)
   | (with_reducible exact ZE _)
   | (with_reducible refine ZH ?_ ?_)
   | (with_reducible refine ZD ?_ (fun _ => ?_))
   | exact ih0 _ _ _ _
   | exact ih1 _ _ _ _ _ _
   | exact ih2 _ _ _ _ _ _
   | exact impl_IsGraph.mono _ _ _
   | exact impl_cloneGraph.mono _ _ _
   | exact slices_Contains_int_int.mono _ _ _
   | exact slices_SortFunc_int_int.mono _ _ _
   | exact ZE _
   | refine ZH ?_ ?_
   | refine ZD ?_ (fun _ => ?_)
def impl_Renamed.T13 : Bool × List (List Nat × List Nat) := (true, [([], []), ([0], [0]), ([], []), ([], []), ([3], [3]), ([4], [4]), ([2, 5], [2, 5]), ([6], [6]), ([], []), ([], []), ([9], [9]), ([10], [10]), ([8, 11], [8, 11]), ([12], [12]), ([7, 13], [7, 13]), ([14], [14]), ([1, 15], [1, 15]), ([0, 1, 2, 3, 4, 5, 6, 7, 8, 9, 10, 11, 12, 13, 14, 15, 16], []), ([17, 16, 16, 0, 1, 2, 3, 4, 5, 6, 7, 8, 9, 10, 11, 12, 13, 14, 15, 16], [16, 17])])
def impl_Renamed.B13 : List Nat := [0, 1, 0, 0, 8, 24, 60, 124, 0, 0, 512, 1536, 3840, 7936, 16380, 32764, 65535, 131071, 262143]
theorem impl_Renamed.tab13 : rtab .any (opsOf Try.f48 13) = impl_Renamed.T13 := by kernel_rfl
theorem impl_Renamed.bits13 : waitsOk impl_Renamed.T13.2 impl_Renamed.B13 = true := by kernel_rfl
set_option maxHeartbeats 8000000 in
set_option maxRecDepth 100000 in
theorem impl_Renamed.calls (k : Nat) (a0_0 : Int) (A0_1 : Option Addr) (c0_1 : Nat) (l0_1 : List (List Int)) (A1 : Option Addr) (c1 : Nat) (l1 : List Int) (r1 : Int) (r2 : List (List Int)) (r3 : Bool) (w : World) (hr0_1 : Kd.C (Kd.slice 3 (Kd.int .i64)) w A0_1 l0_1.length l0_1) (hc0_1 : l0_1.length ≤ c0_1) (hr1 : Kd.C (Kd.int .i64) w A1 l1.length l1) (hc1 : l1.length ≤ c1) (h : impl_Renamed.f k a0_0 l0_1 l1 = some (r1, r2, r3)) :
  Calls Try.prog 48 #[.agg #[.int .i64 a0_0, .slice A0_1 l0_1.length c0_1], .slice A1 l1.length c1] w fun e w' => ∃ v1_ : Value, e = .returned (.tuple #[.agg #[.int .i64 r1, v1_], .bool r3]) ∧ Kd.S (Kd.slice 3 (Kd.int .i64)) 31 w' w.heap.size (fun _ => True) v1_ r2 ∧ Below w.heap.size w w' := by
 have hu27 := Try.underlying27
 have HR0_1 := Aside0.mk hr0_1
 have HC0_1 := Aside0.mk hc0_1
 clear hr0_1 hc0_1
 have HR1 := Aside0.mk hr1
 have HC1 := Aside0.mk hc1
 clear hr1 hc1
 have HB := Aside0.mk (Below.refl w.heap.size w)
 have H : ((impl_IsGraph.f k a0_0 l0_1).bind fun t165 => (if t165 = true then (impl_Renamed.j0 k l1 ((l1.length : Int) != a0_0) a0_0 l0_1) else (impl_Renamed.j0 k l1 true a0_0 l0_1))) = some (r1, r2, r3) := h
 clear h
 have HC3 := Aside0.mk H
 clear H
 go_enter Try.func48, Try.ntmps48
 go_upto_region 1 with (first | ((with_reducible refine gate_dst (N := 2) rfl ?_); (try (refine gate_guard (by rfl) ?_; dsimp only)); refine box_event ?hg (N := 2) ?hd (cs := #[.int .i64 a0_0, .slice A0_1 l0_1.length c0_1]) (t := 27) ?hr ?_; (case hd => rfl); (case hg => rfl); (case hr => first | (go_simp; done) | (go_simp; rfl)); intro gb163 hg w4 hbox hb; have n0_ := Aside0.mk (Zu (by repeat (first | (with_reducible first | exact HB.out | apply Zj | apply Ze | apply Zi) | exact HB.out)) hb); have n1_ := Aside0.mk (hbox); have n2_ := Aside0.mk ((by rw [hg]; exact (Zs (by repeat (first | (with_reducible first | exact HB.out | apply Zj | apply Ze | apply Zi) | exact HB.out))) : w.heap.size ≤ gb163)); have n3_ := Aside0.mk ((by rw [hg]; exact (Zs (by repeat (first | (with_reducible first | exact HB.out | apply Zj | apply Ze | apply Zi) | exact HB.out))) : w.heap.size ≤ gb163)); clear HB; have HB := n0_; have BK163 := n1_; have GW163 := n2_; have GE163 := n3_; clear n0_ n1_ n2_ n3_; clear hb hbox hg) | ((with_reducible refine gate_dst (N := 4) rfl ?_); (try (refine gate_guard (by rfl) ?_; dsimp only)); refine box_event ?hg (N := 4) ?hd (cs := #[.int .i64 0, .slice none 0 0]) (t := 27) ?hr ?_; (case hd => rfl); (case hg => rfl); (case hr => first | (go_simp; done) | (go_simp; rfl)); intro gb164 hg w5 hbox hb; have n0_ := Aside0.mk (Zp (g := gb163) (o := .cells #[.int .i64 a0_0, .slice A0_1 l0_1.length c0_1] 27 (0, 0)) (by (with_reducible repeat (first | refine Zg ?_ _ | refine Zh ?_ | refine Zf ?_ _)); exact BK163.out) hb); have n1_ := Aside0.mk (Zu (by repeat (first | (with_reducible first | exact HB.out | apply Zj | apply Ze | apply Zi | refine Zd ?_ GE163.out) | exact HB.out)) hb); have n2_ := Aside0.mk (hbox); have n3_ := Aside0.mk ((by rw [hg]; exact (Zs (by repeat (first | (with_reducible first | exact HB.out | apply Zj | apply Ze | apply Zi | refine Zd ?_ GE163.out) | exact HB.out))) : w.heap.size ≤ gb164)); have n4_ := Aside0.mk ((by rw [hg]; exact (Zs (by repeat (first | (with_reducible first | exact HB.out | apply Zj | apply Ze | apply Zi | refine Zd ?_ GE163.out) | exact HB.out))) : w.heap.size ≤ gb164)); have n5_ := Aside0.mk ((by rw [hg]; exact Nat.ne_of_lt (blk_lt (g := gb163) (o := .cells #[.int .i64 a0_0, .slice A0_1 l0_1.length c0_1] 27 (0, 0)) (by (with_reducible repeat (first | refine Zg ?_ _ | refine Zh ?_ | refine Zf ?_ _)); exact BK163.out)) : gb163 ≠ gb164)); have n6_ := Aside0.mk ((by rw [hg]; exact Nat.ne_of_gt (blk_lt (g := gb163) (o := .cells #[.int .i64 a0_0, .slice A0_1 l0_1.length c0_1] 27 (0, 0)) (by (with_reducible repeat (first | refine Zg ?_ _ | refine Zh ?_ | refine Zf ?_ _)); exact BK163.out)) : gb164 ≠ gb163)); clear BK163; clear HB; have BK163 := n0_; have HB := n1_; have BK164 := n2_; have GW164 := n3_; have GE164 := n4_; have NB163_164 := n5_; have NB164_163 := n6_; clear n0_ n1_ n2_ n3_ n4_ n5_ n6_; clear hb hbox hg))
 (try simp only [Act.put, Za, Zb, Zc])
 go_cut [20] (fun v20 wc => ∃ (kq : Nat) (x20_2 : Bool), v20 = .bool x20_2 ∧ Aside0 (impl_Renamed.j0 kq l1 x20_2 a0_0 l0_1 = some (r1, r2, r3)) ∧ Aside0 (kq ≤ k) ∧ Aside0 (wc.heap[gb163]? = some (.cells #[.int .i64 a0_0, (.slice A0_1 l0_1.length c0_1)] 27 (0, 0))) ∧ Aside0 (wc.heap[gb164]? = some (.cells #[.int .i64 0, (.slice none 0 0)] 27 (0, 0))) ∧ Aside0 (Below w.heap.size w wc))
 case first =>
  have H := HC3.out
  clear HC3
  replace H := Option.bind_eq_some_iff.mp H
  obtain ⟨t165, A60, H⟩ := H
  replace H : (if t165 = true then (impl_Renamed.j0 k l1 ((l1.length : Int) != a0_0) a0_0 l0_1) else (impl_Renamed.j0 k l1 true a0_0 l0_1)) = some (r1, r2, r3) := H
  have A6 := Aside0.mk A60
  clear A60
  by_cases c7 : t165 = true
  ·subst c7
   have H1 : (impl_Renamed.j0 k l1 ((l1.length : Int) != a0_0) a0_0 l0_1) = some (r1, r2, r3) := by rw [if_pos rfl] at H; exact H
   clear H
   have H := H1
   clear H1
   have H' := Aside0.mk H
   clear H
   have hnb8 := NB163_164.out
   have hnc8 := NB164_163.out
   have hcz9_0 : w5.cell? ⟨gb163, 0, none⟩ = some (.int .i64 a0_0) := (Zk BK163.out 0).trans rfl
   have hcz9_1 : w5.cell? ⟨gb163, 1, none⟩ = some (.slice A0_1 l0_1.length c0_1) := (Zk BK163.out 1).trans rfl
   have hfz9_0 := Zl BK163.out 0
   have hfz9_1 := Zl BK163.out 1
   go_wp2_with (first | ((with_reducible refine ZA (f := 24) rfl ?_); refine goesL_ (some 12) rfl rfl Try.func24 (by kernel_rfl) rfl #[.agg #[.int .i64 a0_0, .slice A0_1 l0_1.length c0_1]] rfl (by (try simp only [List.map_toArray, List.map_cons, List.map_nil]); first | done | rfl | (simp only [List.length_drop, List.length_take]; rfl)) ?_; (with_reducible refine (impl_IsGraph.calls k a0_0 _ _ l0_1 true _ ?side1 ?side2 A6.out).mono ?_); (case side1 => repeat (first | exact (ZG HR0_1.out HB.out) | (with_reducible refine Zw ?_ _) | (with_reducible refine Zv ?_ _) | (with_reducible refine Zz ?_))); (case side2 => exact HC0_1.out); rintro e w10 ⟨rfl, hb⟩; refine ⟨_, rfl, ?_⟩; have n0_ := Aside0.mk (Zp (g := gb163) (o := .cells #[.int .i64 a0_0, .slice A0_1 l0_1.length c0_1] 27 (0, 0)) (by (with_reducible repeat (first | refine Zg ?_ _ | refine Zh ?_ | refine Zf ?_ _)); exact BK163.out) hb); have n1_ := Aside0.mk (Zp (g := gb164) (o := .cells #[.int .i64 0, .slice none 0 0] 27 (0, 0)) (by (with_reducible repeat (first | refine Zg ?_ _ | refine Zh ?_ | refine Zf ?_ _)); exact BK164.out) hb); have n2_ := Aside0.mk (Zu (by repeat (first | (with_reducible first | exact HB.out | apply Zj | apply Ze | apply Zi | refine Zd ?_ GE163.out | refine Zd ?_ GE164.out) | exact HB.out)) hb); clear BK163; clear BK164; clear HB; have BK163 := n0_; have BK164 := n1_; have HB := n2_; clear n0_ n1_ n2_; (try clear hb); (try clear hb2); (try clear hk); (try clear hi); have hcz11_0 : w10.cell? ⟨gb163, 0, none⟩ = some (.int .i64 a0_0) := (Zk BK163.out 0).trans rfl; have hcz11_1 : w10.cell? ⟨gb163, 1, none⟩ = some (.slice A0_1 l0_1.length c0_1) := (Zk BK163.out 1).trans rfl; have hfz11_0 := Zl BK163.out 0; have hfz11_1 := Zl BK163.out 1))
   go_meet
   case rel => exact ⟨_, (((l1.length : Int) != a0_0)), (by first | rfl | (simp; done) | (simp [*]; done)), H', ⟨by first | omega | exact Nat.le_refl _⟩, ⟨by (with_reducible repeat (first | refine Zg ?_ _ | refine Zh ?_ | refine Zf ?_ _)); exact BK163.out⟩, ⟨by (with_reducible repeat (first | refine Zg ?_ _ | refine Zh ?_ | refine Zf ?_ _)); exact BK164.out⟩, ⟨by repeat (first | (with_reducible first | exact HB.out | apply Zj | apply Ze | apply Zi | refine Zd ?_ GE163.out | refine Zd ?_ GE164.out) | exact HB.out)⟩⟩
  ·replace c7 := Bool.eq_false_iff.mpr c7
   subst c7
   have H1 : (impl_Renamed.j0 k l1 true a0_0 l0_1) = some (r1, r2, r3) := by rw [if_neg (show ¬ (false = true) by decide)] at H; exact H
   clear H
   have H := H1
   clear H1
   have H' := Aside0.mk H
   clear H
   have hnb12 := NB163_164.out
   have hnc12 := NB164_163.out
   have hcz13_0 : w5.cell? ⟨gb163, 0, none⟩ = some (.int .i64 a0_0) := (Zk BK163.out 0).trans rfl
   have hcz13_1 : w5.cell? ⟨gb163, 1, none⟩ = some (.slice A0_1 l0_1.length c0_1) := (Zk BK163.out 1).trans rfl
   have hfz13_0 := Zl BK163.out 0
   have hfz13_1 := Zl BK163.out 1
   go_wp2_with (first | ((with_reducible refine ZA (f := 24) rfl ?_); refine goesL_ (some 12) rfl rfl Try.func24 (by kernel_rfl) rfl #[.agg #[.int .i64 a0_0, .slice A0_1 l0_1.length c0_1]] rfl (by (try simp only [List.map_toArray, List.map_cons, List.map_nil]); first | done | rfl | (simp only [List.length_drop, List.length_take]; rfl)) ?_; (with_reducible refine (impl_IsGraph.calls k a0_0 _ _ l0_1 false _ ?side1 ?side2 A6.out).mono ?_); (case side1 => repeat (first | exact (ZG HR0_1.out HB.out) | (with_reducible refine Zw ?_ _) | (with_reducible refine Zv ?_ _) | (with_reducible refine Zz ?_))); (case side2 => exact HC0_1.out); rintro e w14 ⟨rfl, hb⟩; refine ⟨_, rfl, ?_⟩; have n0_ := Aside0.mk (Zp (g := gb163) (o := .cells #[.int .i64 a0_0, .slice A0_1 l0_1.length c0_1] 27 (0, 0)) (by (with_reducible repeat (first | refine Zg ?_ _ | refine Zh ?_ | refine Zf ?_ _)); exact BK163.out) hb); have n1_ := Aside0.mk (Zp (g := gb164) (o := .cells #[.int .i64 0, .slice none 0 0] 27 (0, 0)) (by (with_reducible repeat (first | refine Zg ?_ _ | refine Zh ?_ | refine Zf ?_ _)); exact BK164.out) hb); have n2_ := Aside0.mk (Zu (by repeat (first | (with_reducible first | exact HB.out | apply Zj | apply Ze | apply Zi | refine Zd ?_ GE163.out | refine Zd ?_ GE164.out) | exact HB.out)) hb); clear BK163; clear BK164; clear HB; have BK163 := n0_; have BK164 := n1_; have HB := n2_; clear n0_ n1_ n2_; (try clear hb); (try clear hb2); (try clear hk); (try clear hi)))
   go_meet
   case rel => exact ⟨_, (true), (by first | rfl | (simp; done) | (simp [*]; done)), H', ⟨by first | omega | exact Nat.le_refl _⟩, ⟨by (with_reducible repeat (first | refine Zg ?_ _ | refine Zh ?_ | refine Zf ?_ _)); exact BK163.out⟩, ⟨by (with_reducible repeat (first | refine Zg ?_ _ | refine Zh ?_ | refine Zf ?_ _)); exact BK164.out⟩, ⟨by repeat (first | (with_reducible first | exact HB.out | apply Zj | apply Ze | apply Zi | refine Zd ?_ GE163.out | refine Zd ?_ GE164.out) | exact HB.out)⟩⟩
 case rest =>
  clear HC3
  try clear c1
  try clear c2
  try clear p2
  try clear c4
  try clear c7
  try clear c8
  try clear c12
  try clear hcz11_0
  try clear hcz11_1
  try clear hcz13_0
  try clear hcz13_1
  try clear hcz9_0
  try clear hcz9_1
  try clear hfz11_0
  try clear hfz11_1
  try clear hfz13_0
  try clear hfz13_1
  try clear hfz9_0
  try clear hfz9_1
  obtain ⟨kq, x20_2, rfl, HA, HJ2, BK163, BK164, HB⟩ := hcut
  cases kq with
  | zero => exact absurd HA.out (by simp [impl_Renamed.j0])
  | succ kj2 =>
   have H := HA.out
   clear HA
   simp only [impl_Renamed.j0] at H
   by_cases c15 : x20_2 = true
   ·subst c15
    have H1 : ((impl_cloneGraph.f kj2 a0_0 l0_1).bind fun bt166 => (some (bt166.1, bt166.2, false))) = some (r1, r2, r3) := by rw [if_pos rfl] at H; exact H
    clear H
    have H := H1
    clear H1
    replace H := Option.bind_eq_some_iff.mp H
    obtain ⟨⟨t166, t167⟩, A160, H⟩ := H
    replace H : (some (t166, t167, false)) = some (r1, r2, r3) := H
    have A16 := Aside0.mk A160
    clear A160
    simp only [Option.some.injEq, Prod.mk.injEq] at H
    obtain ⟨rfl, rfl, rfl⟩ := H
    have hnb17 := NB163_164.out
    have hnc17 := NB164_163.out
    have hcz18_0 : wc.cell? ⟨gb163, 0, none⟩ = some (.int .i64 a0_0) := (Zk BK163.out 0).trans rfl
    have hcz18_1 : wc.cell? ⟨gb163, 1, none⟩ = some (.slice A0_1 l0_1.length c0_1) := (Zk BK163.out 1).trans rfl
    have hfz18_0 := Zl BK163.out 0
    have hfz18_1 := Zl BK163.out 1
    go_wp2_with (first | ((with_reducible refine ZA (f := 91) rfl ?_); refine goesL_ (some 22) rfl rfl Try.func91 (by kernel_rfl) rfl #[.agg #[.int .i64 a0_0, .slice A0_1 l0_1.length c0_1]] rfl (by (try simp only [List.map_toArray, List.map_cons, List.map_nil]); first | done | rfl | (simp only [List.length_drop, List.length_take]; rfl)) ?_; (with_reducible refine (impl_cloneGraph.calls kj2 a0_0 _ _ l0_1 t166 t167 _ ?side1 ?side2 A16.out).mono ?_); (case side1 => repeat (first | exact (ZG HR0_1.out HB.out) | (with_reducible refine Zw ?_ _) | (with_reducible refine Zv ?_ _) | (with_reducible refine Zz ?_))); (case side2 => exact HC0_1.out); rintro e w19 ⟨v168, rfl, ho0, hb⟩; refine ⟨_, rfl, ?_⟩; have n0_ := Aside0.mk (Kd.S_lower ho0 (Zs (by repeat (first | (with_reducible first | exact HB.out | apply Zj | apply Ze | apply Zi | refine Zd ?_ GE163.out | refine Zd ?_ GE164.out) | exact HB.out)))); have n1_ := Aside0.mk (Zp (g := gb163) (o := .cells #[.int .i64 a0_0, .slice A0_1 l0_1.length c0_1] 27 (0, 0)) (by (with_reducible repeat (first | refine Zg ?_ _ | refine Zh ?_ | refine Zf ?_ _)); exact BK163.out) hb); have n2_ := Aside0.mk (Zp (g := gb164) (o := .cells #[.int .i64 0, .slice none 0 0] 27 (0, 0)) (by (with_reducible repeat (first | refine Zg ?_ _ | refine Zh ?_ | refine Zf ?_ _)); exact BK164.out) hb); have n3_ := Aside0.mk (Zu (by repeat (first | (with_reducible first | exact HB.out | apply Zj | apply Ze | apply Zi | refine Zd ?_ GE163.out | refine Zd ?_ GE164.out) | exact HB.out)) hb); clear BK163; clear BK164; clear HB; have HO169 := n0_; have BK163 := n1_; have BK164 := n2_; have HB := n3_; clear n0_ n1_ n2_ n3_; (try clear hb); (try clear hb2); (try clear hk); (try clear hi); (try clear ho0); have hcz20_0 : w19.cell? ⟨gb164, 0, none⟩ = some (.int .i64 0) := (Zk BK164.out 0).trans rfl; have hcz20_1 : w19.cell? ⟨gb164, 1, none⟩ = some (.slice none 0 0) := (Zk BK164.out 1).trans rfl; have hfz20_0 := Zl BK164.out 0; have hfz20_1 := Zl BK164.out 1; obtain ⟨Ao21, co21, eo21⟩ := Kd.S_slice HO169.out; subst eo21))
    refine bodyPost_ret (results_ct rfl _ _ gb164 27 #[.int .i64 t166, .slice Ao21 t167.length co21] (0, 0) _ rfl (by (with_reducible repeat (first | refine Zg ?_ _ | refine Zh ?_ | refine Zf ?_ _)); refine blk_put (cs := #[.int .i64 t166, .slice none 0 0]) ?_ 1 _ rfl; (with_reducible repeat (first | refine Zg ?_ _ | refine Zh ?_ | refine Zf ?_ _)); refine blk_put (cs := #[.int .i64 0, .slice none 0 0]) ?_ 0 _ rfl; (with_reducible repeat (first | refine Zg ?_ _ | refine Zh ?_ | refine Zf ?_ _)); exact BK164.out) Try.underlying27 rfl (by kernel_rfl)) rfl ?_
    exact ⟨_, by first | rfl | (simp [errW_none, errW_some] <;> rfl) | (simp [*, errW_none, errW_some] <;> rfl), by (with_reducible repeat (first | apply Zn | apply Zm | apply Zo)); exact Zy (ZB (p := ⟨gb164, 1, none⟩) (ZB (p := ⟨gb164, 0, none⟩) (ZJ HO169.out BK164.out (by decide)) (fun _ hk => hk.2) (.int .i64 t166)) (fun _ hk => hk.2) (.slice Ao21 t167.length co21)) (fun _ hk => trivial), by repeat (first | (with_reducible first | exact HB.out | apply Zj | apply Ze | apply Zi | refine Zd ?_ GE163.out | refine Zd ?_ GE164.out) | exact HB.out)⟩
   ·replace c15 := Bool.eq_false_iff.mpr c15
    subst c15
    have H1 : (impl_Renamed.l0 kj2 l1 l1 (l1.length : Int) 0 a0_0 l0_1) = some (r1, r2, r3) := by rw [if_neg (show ¬ (false = true) by decide)] at H; exact H
    clear H
    have H := H1
    clear H1
    have H' := Aside0.mk H
    clear H
    go_wp2
    go_loopg [25] kj2 (fun kq v25 w' => ∃ (x25_2 : Int) (x165000_2 : Int), v25 = .int .i64 x25_2 ∧ Aside0 (impl_Renamed.l0 kq l1 l1 (l1.length : Int) x25_2 a0_0 l0_1 = some (r1, r2, r3)) ∧ Aside0 (kq ≤ kj2) ∧ Aside0 (w'.heap[gb163]? = some (.cells #[.int .i64 a0_0, (.slice A0_1 l0_1.length c0_1)] 27 (0, 0))) ∧ Aside0 (w'.heap[gb164]? = some (.cells #[.int .i64 x165000_2, (.slice none 0 0)] 27 (0, 0))) ∧ Aside0 (Below w.heap.size w w'))
    case atStart => exact ⟨(0), (0), (by first | rfl | (simp; done) | (simp [*]; done)), H', ⟨Nat.le_refl _⟩, ⟨by (with_reducible repeat (first | refine Zg ?_ _ | refine Zh ?_ | refine Zf ?_ _)); exact BK163.out⟩, ⟨by (with_reducible repeat (first | refine Zg ?_ _ | refine Zh ?_ | refine Zf ?_ _)); exact BK164.out⟩, ⟨by repeat (first | (with_reducible first | exact HB.out | apply Zj | apply Ze | apply Zi | refine Zd ?_ GE163.out | refine Zd ?_ GE164.out) | exact HB.out)⟩⟩
    case round =>
     clear H'
     try clear c1
     try clear c2
     try clear p2
     try clear c4
     try clear c7
     try clear c8
     try clear c9
     try clear c12
     try clear c15
     try clear c17
     try clear hcz11_0
     try clear hcz11_1
     try clear hcz13_0
     try clear hcz13_1
     try clear hcz18_0
     try clear hcz18_1
     try clear hcz20_0
     try clear hcz20_1
     try clear hcz9_0
     try clear hcz9_1
     try clear hfz11_0
     try clear hfz11_1
     try clear hfz13_0
     try clear hfz13_1
     try clear hfz18_0
     try clear hfz18_1
     try clear hfz20_0
     try clear hfz20_1
     try clear hfz9_0
     try clear hfz9_1
     try clear p2
     obtain ⟨x25_2, x165000_2, rfl, HA, HK2, BK163, BK164, HB⟩ := hrel
     cases gk with
     | zero => exact absurd HA.out (by simp [impl_Renamed.l0])
     | succ k2 =>
      have H := HA.out
      clear HA
      simp only [impl_Renamed.l0] at H
      by_cases c22 : x25_2 < (l1.length : Int)
      ·rw [if_pos c22] at H
       have c22b0 : decide (x25_2 < (l1.length : Int)) = true := decide_eq_true c22
       clear c22
       by_cases c23 : 0 ≤ x25_2
       ·rw [if_pos c23] at H
        have c23b0 : decide (0 ≤ x25_2) = true := decide_eq_true c23
        clear c23
        by_cases c24 : x25_2 < (l1.length : Int)
        ·rw [if_pos c24] at H
         have c24b0 : decide (x25_2 < (l1.length : Int)) = true := decide_eq_true c24
         clear c24
         replace H := Option.bind_eq_some_iff.mp H
         obtain ⟨t171, A250, H⟩ := H
         replace H : (if t171 = true then (if x25_2 ≤ (l1.length : Int) then ((slices_Contains_int_int.f k2 (l1.take (x25_2 : Int).toNat) (rd l1 x25_2)).bind fun t173 => (if t173 = true then ((impl_cloneGraph.f k2 a0_0 l0_1).bind fun bt174 => (some (bt174.1, bt174.2, false))) else (impl_Renamed.l0 k2 l1 l1 (l1.length : Int) (wrap64 (x25_2 + 1)) a0_0 l0_1))) else (none)) else ((impl_cloneGraph.f k2 a0_0 l0_1).bind fun bt178 => (some (bt178.1, bt178.2, false)))) = some (r1, r2, r3) := H
         have A25 := Aside0.mk A250
         clear A250
         by_cases c26 : t171 = true
         ·subst c26
          have H1 : (if x25_2 ≤ (l1.length : Int) then ((slices_Contains_int_int.f k2 (l1.take (x25_2 : Int).toNat) (rd l1 x25_2)).bind fun t173 => (if t173 = true then ((impl_cloneGraph.f k2 a0_0 l0_1).bind fun bt174 => (some (bt174.1, bt174.2, false))) else (impl_Renamed.l0 k2 l1 l1 (l1.length : Int) (wrap64 (x25_2 + 1)) a0_0 l0_1))) else (none)) = some (r1, r2, r3) := by rw [if_pos rfl] at H; exact H
          clear H
          have H := H1
          clear H1
          have c27b0 := eq_true (of_decide_eq_true (by first | (with_reducible assumption) | assumption) : 0 ≤ x25_2)
          by_cases c28 : x25_2 ≤ (l1.length : Int)
          ·rw [if_pos c28] at H
           have c28b0 := eq_true c28
           have c28b1 : decide (x25_2 ≤ (l1.length : Int)) = true := decide_eq_true c28
           clear c28
           replace H := Option.bind_eq_some_iff.mp H
           obtain ⟨t173, A290, H⟩ := H
           replace H : (if t173 = true then ((impl_cloneGraph.f k2 a0_0 l0_1).bind fun bt174 => (some (bt174.1, bt174.2, false))) else (impl_Renamed.l0 k2 l1 l1 (l1.length : Int) (wrap64 (x25_2 + 1)) a0_0 l0_1)) = some (r1, r2, r3) := H
           have A29 := Aside0.mk A290
           clear A290
           by_cases c30 : t173 = true
           ·subst c30
            have H1 : ((impl_cloneGraph.f k2 a0_0 l0_1).bind fun bt174 => (some (bt174.1, bt174.2, false))) = some (r1, r2, r3) := by rw [if_pos rfl] at H; exact H
            clear H
            have H := H1
            clear H1
            replace H := Option.bind_eq_some_iff.mp H
            obtain ⟨⟨t174, t175⟩, A310, H⟩ := H
            replace H : (some (t174, t175, false)) = some (r1, r2, r3) := H
            have A31 := Aside0.mk A310
            clear A310
            simp only [Option.some.injEq, Prod.mk.injEq] at H
            obtain ⟨rfl, rfl, rfl⟩ := H
            have p170 : 0 ≤ (x25_2 : Int) := of_decide_eq_true (by first | (with_reducible assumption) | assumption)
            have q170 : x25_2 < (l1.length : Int) := of_decide_eq_true (by first | (with_reducible assumption) | assumption)
            obtain ⟨ad170, e170, hx170_0⟩ := ZI HR1.out x25_2 p170 q170
            cases e170
            replace hx170_0 := (HB.out.cell (World.block_lt_of_cell? w _ hx170_0)).trans hx170_0
            replace p170 := eq_true p170
            replace q170 := eq_true q170
            have hnb32 := NB163_164.out
            have hnc32 := NB164_163.out
            have hcz33_0 : wr.cell? ⟨gb163, 0, none⟩ = some (.int .i64 a0_0) := (Zk BK163.out 0).trans rfl
            have hcz33_1 : wr.cell? ⟨gb163, 1, none⟩ = some (.slice A0_1 l0_1.length c0_1) := (Zk BK163.out 1).trans rfl
            have hfz33_0 := Zl BK163.out 0
            have hfz33_1 := Zl BK163.out 1
            go_wp2_with (first | ((with_reducible refine ZA (f := 61) rfl ?_); refine goesL_ (some 32) rfl rfl Try.func61 (by kernel_rfl) rfl #[.agg #[.int .i64 a0_0, .slice A0_1 l0_1.length c0_1], .int .i64 (rd l1 x25_2)] rfl (by (try simp only [List.map_toArray, List.map_cons, List.map_nil]); first | done | rfl | (simp only [List.length_drop, List.length_take]; rfl)) ?_; (with_reducible refine (impl_isClaim.calls a0_0 _ _ l0_1 (rd l1 x25_2) true _ ?side1 ?side2 A25.out).mono ?_); (case side1 => repeat (first | exact (ZG HR0_1.out HB.out) | (with_reducible refine Zw ?_ _) | (with_reducible refine Zv ?_ _) | (with_reducible refine Zz ?_))); (case side2 => exact HC0_1.out); rintro e w34 ⟨rfl, hb⟩; refine ⟨_, rfl, ?_⟩; have n0_ := Aside0.mk (Zp (g := gb163) (o := .cells #[.int .i64 a0_0, .slice A0_1 l0_1.length c0_1] 27 (0, 0)) (by (with_reducible repeat (first | refine Zg ?_ _ | refine Zh ?_ | refine Zf ?_ _)); exact BK163.out) hb); have n1_ := Aside0.mk (Zp (g := gb164) (o := .cells #[.int .i64 x165000_2, .slice none 0 0] 27 (0, 0)) (by (with_reducible repeat (first | refine Zg ?_ _ | refine Zh ?_ | refine Zf ?_ _)); exact BK164.out) hb); have n2_ := Aside0.mk (Zu (by repeat (first | (with_reducible first | exact HB.out | apply Zj | apply Ze | apply Zi | refine Zd ?_ GE163.out | refine Zd ?_ GE164.out) | exact HB.out)) hb); clear BK163; clear BK164; clear HB; have BK163 := n0_; have BK164 := n1_; have HB := n2_; clear n0_ n1_ n2_; (try clear hb); (try clear hb2); (try clear hk); (try clear hi); obtain ⟨i035, hi035, _, hsz35, _⟩ := info_parts info3; obtain ⟨hcut35, hA35, hC35⟩ := print_take_of (P := Try.prog) (Value.int .i64) 0 31 3 .i64 Try.underlying31 hi035 hsz35 (some ad170) c1 l1 x25_2 (of_decide_eq_true (by first | (with_reducible assumption) | assumption)) (of_decide_eq_true (by first | (with_reducible assumption) | assumption)) HC1.out; have HR172 := Aside0.mk (Kd.C_of_reads (h1 := fun _ => rfl) (hA35 _ (Kd.reads_of_C HR1.out))); have HC172 := Aside0.mk hC35; clear hA35 hC35 hi035 hsz35) | (go_at_call 80; (try rw [show (x25_2 : Int).toNat = (l1.take (x25_2 : Int).toNat).length from (by rw [List.length_take]; have q_ := of_decide_eq_true c22b0; omega)]); (with_reducible refine (slices_Contains_int_int.calls k2 _ _ (l1.take (x25_2 : Int).toNat) (rd l1 x25_2) true _ ?side1 ?side2 A29.out).mono ?_); (case side1 => repeat (first | exact (ZG HR172.out HB.out) | (with_reducible refine Zw ?_ _) | (with_reducible refine Zv ?_ _) | (with_reducible refine Zz ?_))); (case side2 => exact HC172.out); rintro e w' ⟨rfl, ⟨nd, rfl⟩⟩; (try (rw [drewN_self w34]; generalize hq_ : World.drewN w34 _ = w34; have n0_ : Aside0 (w34.heap[gb163]? = some (.cells #[.int .i64 a0_0, .slice A0_1 l0_1.length c0_1] 27 (0, 0))) := ⟨by rw [← hq_]; exact (by (with_reducible repeat (first | refine Zg ?_ _ | refine Zh ?_ | refine Zf ?_ _)); exact BK163.out)⟩; have n1_ : Aside0 (w34.heap[gb164]? = some (.cells #[.int .i64 x165000_2, .slice none 0 0] 27 (0, 0))) := ⟨by rw [← hq_]; exact (by (with_reducible repeat (first | refine Zg ?_ _ | refine Zh ?_ | refine Zf ?_ _)); exact BK164.out)⟩; have n2_ : Aside0 (Below w.heap.size w w34) := ⟨by rw [← hq_]; exact (by repeat (first | (with_reducible first | exact HB.out | apply Zj | apply Ze | apply Zi | refine Zd ?_ GE163.out | refine Zd ?_ GE164.out) | exact HB.out))⟩; clear BK163 BK164 HB hq_; have BK163 := n0_; have BK164 := n1_; have HB := n2_; clear n0_ n1_ n2_)); (try (have hcugb163_0 : w34.cell? ⟨gb163, 0, none⟩ = some (.int .i64 a0_0) := (Zk BK163.out 0).trans rfl)); (try (have hfugb163_0 := Zl BK163.out 0)); (try (have hcugb163_1 : w34.cell? ⟨gb163, 1, none⟩ = some (.slice A0_1 l0_1.length c0_1) := (Zk BK163.out 1).trans rfl)); (try (have hfugb163_1 := Zl BK163.out 1)); (try (have hcugb164_0 : w34.cell? ⟨gb164, 0, none⟩ = some (.int .i64 x165000_2) := (Zk BK164.out 0).trans rfl)); (try (have hfugb164_0 := Zl BK164.out 0)); (try (have hcugb164_1 : w34.cell? ⟨gb164, 1, none⟩ = some (.slice none 0 0) := (Zk BK164.out 1).trans rfl)); (try (have hfugb164_1 := Zl BK164.out 1)); have hcz36_0 : w34.cell? ⟨gb163, 0, none⟩ = some (.int .i64 a0_0) := (Zk BK163.out 0).trans rfl; have hcz36_1 : w34.cell? ⟨gb163, 1, none⟩ = some (.slice A0_1 l0_1.length c0_1) := (Zk BK163.out 1).trans rfl; have hfz36_0 := Zl BK163.out 0; have hfz36_1 := Zl BK163.out 1) | ((with_reducible refine ZA (f := 91) rfl ?_); refine goesL_ (some 42) rfl rfl Try.func91 (by kernel_rfl) rfl #[.agg #[.int .i64 a0_0, .slice A0_1 l0_1.length c0_1]] rfl (by (try simp only [List.map_toArray, List.map_cons, List.map_nil]); first | done | rfl | (simp only [List.length_drop, List.length_take]; rfl)) ?_; (with_reducible refine (impl_cloneGraph.calls k2 a0_0 _ _ l0_1 t174 t175 _ ?side1 ?side2 A31.out).mono ?_); (case side1 => repeat (first | exact (ZG HR0_1.out HB.out) | (with_reducible refine Zw ?_ _) | (with_reducible refine Zv ?_ _) | (with_reducible refine Zz ?_))); (case side2 => exact HC0_1.out); rintro e w37 ⟨v176, rfl, ho0, hb⟩; refine ⟨_, rfl, ?_⟩; have n0_ := Aside0.mk (Kd.S_lower ho0 (Zs (by repeat (first | (with_reducible first | exact HB.out | apply Zj | apply Ze | apply Zi | refine Zd ?_ GE163.out | refine Zd ?_ GE164.out) | exact HB.out)))); have n1_ := Aside0.mk (Zp (g := gb163) (o := .cells #[.int .i64 a0_0, .slice A0_1 l0_1.length c0_1] 27 (0, 0)) (by (with_reducible repeat (first | refine Zg ?_ _ | refine Zh ?_ | refine Zf ?_ _)); exact BK163.out) hb); have n2_ := Aside0.mk (Zp (g := gb164) (o := .cells #[.int .i64 x165000_2, .slice none 0 0] 27 (0, 0)) (by (with_reducible repeat (first | refine Zg ?_ _ | refine Zh ?_ | refine Zf ?_ _)); exact BK164.out) hb); have n3_ := Aside0.mk (Zu (by repeat (first | (with_reducible first | exact HB.out | apply Zj | apply Ze | apply Zi | refine Zd ?_ GE163.out | refine Zd ?_ GE164.out) | exact HB.out)) hb); clear BK163; clear BK164; clear HB; have HO177 := n0_; have BK163 := n1_; have BK164 := n2_; have HB := n3_; clear n0_ n1_ n2_ n3_; (try clear hb); (try clear hb2); (try clear hk); (try clear hi); (try clear ho0); have hcz38_0 : w37.cell? ⟨gb164, 0, none⟩ = some (.int .i64 x165000_2) := (Zk BK164.out 0).trans rfl; have hcz38_1 : w37.cell? ⟨gb164, 1, none⟩ = some (.slice none 0 0) := (Zk BK164.out 1).trans rfl; have hfz38_0 := Zl BK164.out 0; have hfz38_1 := Zl BK164.out 1; obtain ⟨Ao39, co39, eo39⟩ := Kd.S_slice HO177.out; subst eo39))
            refine bodyPost_ret (results_ct rfl _ _ gb164 27 #[.int .i64 t174, .slice Ao39 t175.length co39] (0, 0) _ rfl (by (with_reducible repeat (first | refine Zg ?_ _ | refine Zh ?_ | refine Zf ?_ _)); refine blk_put (cs := #[.int .i64 t174, .slice none 0 0]) ?_ 1 _ rfl; (with_reducible repeat (first | refine Zg ?_ _ | refine Zh ?_ | refine Zf ?_ _)); refine blk_put (cs := #[.int .i64 x165000_2, .slice none 0 0]) ?_ 0 _ rfl; (with_reducible repeat (first | refine Zg ?_ _ | refine Zh ?_ | refine Zf ?_ _)); exact BK164.out) Try.underlying27 rfl (by kernel_rfl)) rfl ?_
            exact ⟨_, by first | rfl | (simp [errW_none, errW_some] <;> rfl) | (simp [*, errW_none, errW_some] <;> rfl), by (with_reducible repeat (first | apply Zn | apply Zm | apply Zo)); exact Zy (ZB (p := ⟨gb164, 1, none⟩) (ZB (p := ⟨gb164, 0, none⟩) (ZJ HO177.out BK164.out (by decide)) (fun _ hk => hk.2) (.int .i64 t174)) (fun _ hk => hk.2) (.slice Ao39 t175.length co39)) (fun _ hk => trivial), by repeat (first | (with_reducible first | exact HB.out | apply Zj | apply Ze | apply Zi | refine Zd ?_ GE163.out | refine Zd ?_ GE164.out) | exact HB.out)⟩
           ·replace c30 := Bool.eq_false_iff.mpr c30
            subst c30
            have H1 : (impl_Renamed.l0 k2 l1 l1 (l1.length : Int) (wrap64 (x25_2 + 1)) a0_0 l0_1) = some (r1, r2, r3) := by rw [if_neg (show ¬ (false = true) by decide)] at H; exact H
            clear H
            have H := H1
            clear H1
            have H' := Aside0.mk H
            clear H
            have p170 : 0 ≤ (x25_2 : Int) := of_decide_eq_true (by first | (with_reducible assumption) | assumption)
            have q170 : x25_2 < (l1.length : Int) := of_decide_eq_true (by first | (with_reducible assumption) | assumption)
            obtain ⟨ad170, e170, hx170_0⟩ := ZI HR1.out x25_2 p170 q170
            cases e170
            replace hx170_0 := (HB.out.cell (World.block_lt_of_cell? w _ hx170_0)).trans hx170_0
            replace p170 := eq_true p170
            replace q170 := eq_true q170
            have hnb40 := NB163_164.out
            have hnc40 := NB164_163.out
            have hcz41_0 : wr.cell? ⟨gb163, 0, none⟩ = some (.int .i64 a0_0) := (Zk BK163.out 0).trans rfl
            have hcz41_1 : wr.cell? ⟨gb163, 1, none⟩ = some (.slice A0_1 l0_1.length c0_1) := (Zk BK163.out 1).trans rfl
            have hfz41_0 := Zl BK163.out 0
            have hfz41_1 := Zl BK163.out 1
            go_wp2_with (first | ((with_reducible refine ZA (f := 61) rfl ?_); refine goesL_ (some 32) rfl rfl Try.func61 (by kernel_rfl) rfl #[.agg #[.int .i64 a0_0, .slice A0_1 l0_1.length c0_1], .int .i64 (rd l1 x25_2)] rfl (by (try simp only [List.map_toArray, List.map_cons, List.map_nil]); first | done | rfl | (simp only [List.length_drop, List.length_take]; rfl)) ?_; (with_reducible refine (impl_isClaim.calls a0_0 _ _ l0_1 (rd l1 x25_2) true _ ?side1 ?side2 A25.out).mono ?_); (case side1 => repeat (first | exact (ZG HR0_1.out HB.out) | (with_reducible refine Zw ?_ _) | (with_reducible refine Zv ?_ _) | (with_reducible refine Zz ?_))); (case side2 => exact HC0_1.out); rintro e w42 ⟨rfl, hb⟩; refine ⟨_, rfl, ?_⟩; have n0_ := Aside0.mk (Zp (g := gb163) (o := .cells #[.int .i64 a0_0, .slice A0_1 l0_1.length c0_1] 27 (0, 0)) (by (with_reducible repeat (first | refine Zg ?_ _ | refine Zh ?_ | refine Zf ?_ _)); exact BK163.out) hb); have n1_ := Aside0.mk (Zp (g := gb164) (o := .cells #[.int .i64 x165000_2, .slice none 0 0] 27 (0, 0)) (by (with_reducible repeat (first | refine Zg ?_ _ | refine Zh ?_ | refine Zf ?_ _)); exact BK164.out) hb); have n2_ := Aside0.mk (Zu (by repeat (first | (with_reducible first | exact HB.out | apply Zj | apply Ze | apply Zi | refine Zd ?_ GE163.out | refine Zd ?_ GE164.out) | exact HB.out)) hb); clear BK163; clear BK164; clear HB; have BK163 := n0_; have BK164 := n1_; have HB := n2_; clear n0_ n1_ n2_; (try clear hb); (try clear hb2); (try clear hk); (try clear hi); obtain ⟨i043, hi043, _, hsz43, _⟩ := info_parts info3; obtain ⟨hcut43, hA43, hC43⟩ := print_take_of (P := Try.prog) (Value.int .i64) 0 31 3 .i64 Try.underlying31 hi043 hsz43 (some ad170) c1 l1 x25_2 (of_decide_eq_true (by first | (with_reducible assumption) | assumption)) (of_decide_eq_true (by first | (with_reducible assumption) | assumption)) HC1.out; have HR172 := Aside0.mk (Kd.C_of_reads (h1 := fun _ => rfl) (hA43 _ (Kd.reads_of_C HR1.out))); have HC172 := Aside0.mk hC43; clear hA43 hC43 hi043 hsz43) | (go_at_call 80; (try rw [show (x25_2 : Int).toNat = (l1.take (x25_2 : Int).toNat).length from (by rw [List.length_take]; have q_ := of_decide_eq_true c22b0; omega)]); (with_reducible refine (slices_Contains_int_int.calls k2 _ _ (l1.take (x25_2 : Int).toNat) (rd l1 x25_2) false _ ?side1 ?side2 A29.out).mono ?_); (case side1 => repeat (first | exact (ZG HR172.out HB.out) | (with_reducible refine Zw ?_ _) | (with_reducible refine Zv ?_ _) | (with_reducible refine Zz ?_))); (case side2 => exact HC172.out); rintro e w' ⟨rfl, ⟨nd, rfl⟩⟩))
            go_roundg k2
            case measure => have := HJ2.out; have := HK2.out; omega
            case rel => exact ⟨(wrap64 (x25_2 + 1)), (x165000_2), (by first | rfl | (simp; done) | (simp [*]; done)), H', ⟨by have := HJ2.out; have := HK2.out; omega⟩, ⟨by (with_reducible repeat (first | refine Zg ?_ _ | refine Zh ?_ | refine Zf ?_ _)); exact BK163.out⟩, ⟨by (with_reducible repeat (first | refine Zg ?_ _ | refine Zh ?_ | refine Zf ?_ _)); exact BK164.out⟩, ⟨by repeat (first | (with_reducible first | exact HB.out | apply Zj | apply Ze | apply Zi | refine Zd ?_ GE163.out | refine Zd ?_ GE164.out) | exact HB.out)⟩⟩
          ·rw [if_neg c28] at H
           exact absurd H (by simp)
         ·replace c26 := Bool.eq_false_iff.mpr c26
          subst c26
          have H1 : ((impl_cloneGraph.f k2 a0_0 l0_1).bind fun bt178 => (some (bt178.1, bt178.2, false))) = some (r1, r2, r3) := by rw [if_neg (show ¬ (false = true) by decide)] at H; exact H
          clear H
          have H := H1
          clear H1
          replace H := Option.bind_eq_some_iff.mp H
          obtain ⟨⟨t178, t179⟩, A440, H⟩ := H
          replace H : (some (t178, t179, false)) = some (r1, r2, r3) := H
          have A44 := Aside0.mk A440
          clear A440
          simp only [Option.some.injEq, Prod.mk.injEq] at H
          obtain ⟨rfl, rfl, rfl⟩ := H
          have p170 : 0 ≤ (x25_2 : Int) := of_decide_eq_true (by first | (with_reducible assumption) | assumption)
          have q170 : x25_2 < (l1.length : Int) := of_decide_eq_true (by first | (with_reducible assumption) | assumption)
          obtain ⟨ad170, e170, hx170_0⟩ := ZI HR1.out x25_2 p170 q170
          cases e170
          replace hx170_0 := (HB.out.cell (World.block_lt_of_cell? w _ hx170_0)).trans hx170_0
          replace p170 := eq_true p170
          replace q170 := eq_true q170
          have hnb45 := NB163_164.out
          have hnc45 := NB164_163.out
          have hcz46_0 : wr.cell? ⟨gb163, 0, none⟩ = some (.int .i64 a0_0) := (Zk BK163.out 0).trans rfl
          have hcz46_1 : wr.cell? ⟨gb163, 1, none⟩ = some (.slice A0_1 l0_1.length c0_1) := (Zk BK163.out 1).trans rfl
          have hfz46_0 := Zl BK163.out 0
          have hfz46_1 := Zl BK163.out 1
          go_wp2_with (first | ((with_reducible refine ZA (f := 61) rfl ?_); refine goesL_ (some 32) rfl rfl Try.func61 (by kernel_rfl) rfl #[.agg #[.int .i64 a0_0, .slice A0_1 l0_1.length c0_1], .int .i64 (rd l1 x25_2)] rfl (by (try simp only [List.map_toArray, List.map_cons, List.map_nil]); first | done | rfl | (simp only [List.length_drop, List.length_take]; rfl)) ?_; (with_reducible refine (impl_isClaim.calls a0_0 _ _ l0_1 (rd l1 x25_2) false _ ?side1 ?side2 A25.out).mono ?_); (case side1 => repeat (first | exact (ZG HR0_1.out HB.out) | (with_reducible refine Zw ?_ _) | (with_reducible refine Zv ?_ _) | (with_reducible refine Zz ?_))); (case side2 => exact HC0_1.out); rintro e w47 ⟨rfl, hb⟩; refine ⟨_, rfl, ?_⟩; have n0_ := Aside0.mk (Zp (g := gb163) (o := .cells #[.int .i64 a0_0, .slice A0_1 l0_1.length c0_1] 27 (0, 0)) (by (with_reducible repeat (first | refine Zg ?_ _ | refine Zh ?_ | refine Zf ?_ _)); exact BK163.out) hb); have n1_ := Aside0.mk (Zp (g := gb164) (o := .cells #[.int .i64 x165000_2, .slice none 0 0] 27 (0, 0)) (by (with_reducible repeat (first | refine Zg ?_ _ | refine Zh ?_ | refine Zf ?_ _)); exact BK164.out) hb); have n2_ := Aside0.mk (Zu (by repeat (first | (with_reducible first | exact HB.out | apply Zj | apply Ze | apply Zi | refine Zd ?_ GE163.out | refine Zd ?_ GE164.out) | exact HB.out)) hb); clear BK163; clear BK164; clear HB; have BK163 := n0_; have BK164 := n1_; have HB := n2_; clear n0_ n1_ n2_; (try clear hb); (try clear hb2); (try clear hk); (try clear hi); have hcz48_0 : w47.cell? ⟨gb163, 0, none⟩ = some (.int .i64 a0_0) := (Zk BK163.out 0).trans rfl; have hcz48_1 : w47.cell? ⟨gb163, 1, none⟩ = some (.slice A0_1 l0_1.length c0_1) := (Zk BK163.out 1).trans rfl; have hfz48_0 := Zl BK163.out 0; have hfz48_1 := Zl BK163.out 1) | ((with_reducible refine ZA (f := 91) rfl ?_); refine goesL_ (some 42) rfl rfl Try.func91 (by kernel_rfl) rfl #[.agg #[.int .i64 a0_0, .slice A0_1 l0_1.length c0_1]] rfl (by (try simp only [List.map_toArray, List.map_cons, List.map_nil]); first | done | rfl | (simp only [List.length_drop, List.length_take]; rfl)) ?_; (with_reducible refine (impl_cloneGraph.calls k2 a0_0 _ _ l0_1 t178 t179 _ ?side1 ?side2 A44.out).mono ?_); (case side1 => repeat (first | exact (ZG HR0_1.out HB.out) | (with_reducible refine Zw ?_ _) | (with_reducible refine Zv ?_ _) | (with_reducible refine Zz ?_))); (case side2 => exact HC0_1.out); rintro e w49 ⟨v180, rfl, ho0, hb⟩; refine ⟨_, rfl, ?_⟩; have n0_ := Aside0.mk (Kd.S_lower ho0 (Zs (by repeat (first | (with_reducible first | exact HB.out | apply Zj | apply Ze | apply Zi | refine Zd ?_ GE163.out | refine Zd ?_ GE164.out) | exact HB.out)))); have n1_ := Aside0.mk (Zp (g := gb163) (o := .cells #[.int .i64 a0_0, .slice A0_1 l0_1.length c0_1] 27 (0, 0)) (by (with_reducible repeat (first | refine Zg ?_ _ | refine Zh ?_ | refine Zf ?_ _)); exact BK163.out) hb); have n2_ := Aside0.mk (Zp (g := gb164) (o := .cells #[.int .i64 x165000_2, .slice none 0 0] 27 (0, 0)) (by (with_reducible repeat (first | refine Zg ?_ _ | refine Zh ?_ | refine Zf ?_ _)); exact BK164.out) hb); have n3_ := Aside0.mk (Zu (by repeat (first | (with_reducible first | exact HB.out | apply Zj | apply Ze | apply Zi | refine Zd ?_ GE163.out | refine Zd ?_ GE164.out) | exact HB.out)) hb); clear BK163; clear BK164; clear HB; have HO181 := n0_; have BK163 := n1_; have BK164 := n2_; have HB := n3_; clear n0_ n1_ n2_ n3_; (try clear hb); (try clear hb2); (try clear hk); (try clear hi); (try clear ho0); have hcz50_0 : w49.cell? ⟨gb164, 0, none⟩ = some (.int .i64 x165000_2) := (Zk BK164.out 0).trans rfl; have hcz50_1 : w49.cell? ⟨gb164, 1, none⟩ = some (.slice none 0 0) := (Zk BK164.out 1).trans rfl; have hfz50_0 := Zl BK164.out 0; have hfz50_1 := Zl BK164.out 1; obtain ⟨Ao51, co51, eo51⟩ := Kd.S_slice HO181.out; subst eo51))
          refine bodyPost_ret (results_ct rfl _ _ gb164 27 #[.int .i64 t178, .slice Ao51 t179.length co51] (0, 0) _ rfl (by (with_reducible repeat (first | refine Zg ?_ _ | refine Zh ?_ | refine Zf ?_ _)); refine blk_put (cs := #[.int .i64 t178, .slice none 0 0]) ?_ 1 _ rfl; (with_reducible repeat (first | refine Zg ?_ _ | refine Zh ?_ | refine Zf ?_ _)); refine blk_put (cs := #[.int .i64 x165000_2, .slice none 0 0]) ?_ 0 _ rfl; (with_reducible repeat (first | refine Zg ?_ _ | refine Zh ?_ | refine Zf ?_ _)); exact BK164.out) Try.underlying27 rfl (by kernel_rfl)) rfl ?_
          exact ⟨_, by first | rfl | (simp [errW_none, errW_some] <;> rfl) | (simp [*, errW_none, errW_some] <;> rfl), by (with_reducible repeat (first | apply Zn | apply Zm | apply Zo)); exact Zy (ZB (p := ⟨gb164, 1, none⟩) (ZB (p := ⟨gb164, 0, none⟩) (ZJ HO181.out BK164.out (by decide)) (fun _ hk => hk.2) (.int .i64 t178)) (fun _ hk => hk.2) (.slice Ao51 t179.length co51)) (fun _ hk => trivial), by repeat (first | (with_reducible first | exact HB.out | apply Zj | apply Ze | apply Zi | refine Zd ?_ GE163.out | refine Zd ?_ GE164.out) | exact HB.out)⟩
        ·rw [if_neg c24] at H
         exact absurd H (by simp)
       ·rw [if_neg c23] at H
        exact absurd H (by simp)
      ·rw [if_neg c22] at H
       have c22b0 : decide (x25_2 < (l1.length : Int)) = false := decide_eq_false c22
       clear c22
       obtain ⟨y182, hy182⟩ : ∃ y_ : List (List Int), y_ = (([] : List (List Int))) := ⟨_, rfl⟩
       replace H : (impl_Renamed.l1 k2 l1 l0_1 (l0_1.length : Int) 0 a0_0 y182) = some (r1, r2, r3) := by first | (rw [hy182]; with_reducible exact H) | (have H2_ := (Option.bind_some _ _).symm.trans H; rw [hy182]; with_reducible exact H2_) | (have H2_ := (Option.bind_some _ _).symm.trans H; with_reducible exact H2_) | with_reducible exact H | (rw [hy182]; exact H) | exact H
       have Ny182 := Aside0.mk hy182
       clear hy182
       have H' := Aside0.mk H
       clear H
       have hnb52 := NB163_164.out
       have hnc52 := NB164_163.out
       have hcz53_0 : wr.cell? ⟨gb163, 0, none⟩ = some (.int .i64 a0_0) := (Zk BK163.out 0).trans rfl
       have hcz53_1 : wr.cell? ⟨gb163, 1, none⟩ = some (.slice A0_1 l0_1.length c0_1) := (Zk BK163.out 1).trans rfl
       have hfz53_0 := Zl BK163.out 0
       have hfz53_1 := Zl BK163.out 1
       go_wp2_with (first | ((with_reducible refine gate_dst (N := 46) rfl ?_); (try (refine gate_guard (by rfl) ?_; dsimp only)); refine Kd.S_lit (Kd.slice 3 (Kd.int .i64)) _ 31 ?hg (N := 46) ?hd (xs := ([] : List (List Int))) (inner := []) (ok := fun _ => True) (okp := fun _ => True) ?hr ?hp (fun _ hk => hk) trivial (Below.refl _ _) (Nat.le_refl _) (by simp) ?_; (case hd => rfl); (case hg => rfl); (case hr => first | (go_simp; done) | (go_simp; rfl)); (case hp => exact (Reps.none _ _)); intro v183 w54 ho55 hb hg_ hnew_; clear hg_ hnew_; (first | rw [← Ny182.out] at ho55 | (simp only [Int.reduceToNat] at ho55; rw [← Ny182.out] at ho55)); have n0_ := Aside0.mk (Kd.S_lower ho55 (Zs (by repeat (first | (with_reducible first | exact HB.out | apply Zj | apply Ze | apply Zi | refine Zd ?_ GE163.out | refine Zd ?_ GE164.out) | exact HB.out)))); have n1_ := Aside0.mk (Zp (g := gb163) (o := .cells #[.int .i64 a0_0, .slice A0_1 l0_1.length c0_1] 27 (0, 0)) (by (with_reducible repeat (first | refine Zg ?_ _ | refine Zh ?_ | refine Zf ?_ _)); exact BK163.out) hb); have n2_ := Aside0.mk (Zp (g := gb164) (o := .cells #[.int .i64 x165000_2, .slice none 0 0] 27 (0, 0)) (by (with_reducible repeat (first | refine Zg ?_ _ | refine Zh ?_ | refine Zf ?_ _)); exact BK164.out) hb); have n3_ := Aside0.mk (Zu (by repeat (first | (with_reducible first | exact HB.out | apply Zj | apply Ze | apply Zi | refine Zd ?_ GE163.out | refine Zd ?_ GE164.out) | exact HB.out)) hb); clear BK163; clear BK164; clear HB; have HO184 := n0_; have BK163 := n1_; have BK164 := n2_; have HB := n3_; clear n0_ n1_ n2_ n3_; clear hb ho55; obtain ⟨Ao56, co56, eo56⟩ := Kd.S_slice HO184.out; subst eo56) | ((with_reducible refine gate_dst (N := 8) rfl ?_); (try (refine gate_guard (by rfl) ?_; dsimp only)); refine box_event ?hg (N := 8) ?hd (cs := #[.int .i64 0, .slice none 0 0]) (t := 27) ?hr ?_; (case hd => rfl); (case hg => rfl); (case hr => first | (go_simp; done) | (go_simp; rfl)); intro gb185 hg w57 hbox hb; have n0_ := Aside0.mk (ZC (by (with_reducible repeat (first | apply Zn | apply Zm | apply Zo)); exact HO184.out) hb); have n1_ := Aside0.mk (Zp (g := gb163) (o := .cells #[.int .i64 a0_0, .slice A0_1 l0_1.length c0_1] 27 (0, 0)) (by (with_reducible repeat (first | refine Zg ?_ _ | refine Zh ?_ | refine Zf ?_ _)); exact BK163.out) hb); have n2_ := Aside0.mk (Zp (g := gb164) (o := .cells #[.int .i64 x165000_2, .slice none 0 0] 27 (0, 0)) (by (with_reducible repeat (first | refine Zg ?_ _ | refine Zh ?_ | refine Zf ?_ _)); exact BK164.out) hb); have n3_ := Aside0.mk (Zu (by repeat (first | (with_reducible first | exact HB.out | apply Zj | apply Ze | apply Zi | refine Zd ?_ GE163.out | refine Zd ?_ GE164.out) | exact HB.out)) hb); have n4_ := Aside0.mk (hbox); have n5_ := Aside0.mk ((by rw [hg]; exact (Zs (by repeat (first | (with_reducible first | exact HB.out | apply Zj | apply Ze | apply Zi | refine Zd ?_ GE163.out | refine Zd ?_ GE164.out) | exact HB.out))) : w.heap.size ≤ gb185)); have n6_ := Aside0.mk ((by rw [hg]; exact (Zs (by repeat (first | (with_reducible first | exact HB.out | apply Zj | apply Ze | apply Zi | refine Zd ?_ GE163.out | refine Zd ?_ GE164.out) | exact HB.out))) : w.heap.size ≤ gb185)); have n7_ := Aside0.mk ((by rw [hg]; exact Nat.ne_of_lt (blk_lt (g := gb163) (o := .cells #[.int .i64 a0_0, .slice A0_1 l0_1.length c0_1] 27 (0, 0)) (by (with_reducible repeat (first | refine Zg ?_ _ | refine Zh ?_ | refine Zf ?_ _)); exact BK163.out)) : gb163 ≠ gb185)); have n8_ := Aside0.mk ((by rw [hg]; exact Nat.ne_of_gt (blk_lt (g := gb163) (o := .cells #[.int .i64 a0_0, .slice A0_1 l0_1.length c0_1] 27 (0, 0)) (by (with_reducible repeat (first | refine Zg ?_ _ | refine Zh ?_ | refine Zf ?_ _)); exact BK163.out)) : gb185 ≠ gb163)); have n9_ := Aside0.mk ((by rw [hg]; exact Nat.ne_of_lt (blk_lt (g := gb164) (o := .cells #[.int .i64 x165000_2, .slice none 0 0] 27 (0, 0)) (by (with_reducible repeat (first | refine Zg ?_ _ | refine Zh ?_ | refine Zf ?_ _)); exact BK164.out)) : gb164 ≠ gb185)); have n10_ := Aside0.mk ((by rw [hg]; exact Nat.ne_of_gt (blk_lt (g := gb164) (o := .cells #[.int .i64 x165000_2, .slice none 0 0] 27 (0, 0)) (by (with_reducible repeat (first | refine Zg ?_ _ | refine Zh ?_ | refine Zf ?_ _)); exact BK164.out)) : gb185 ≠ gb164)); clear HO184; clear BK163; clear BK164; clear HB; have HO184 := n0_; have BK163 := n1_; have BK164 := n2_; have HB := n3_; have BK185 := n4_; have GW185 := n5_; have GE185 := n6_; have NB163_185 := n7_; have NB185_163 := n8_; have NB164_185 := n9_; have NB185_164 := n10_; clear n0_ n1_ n2_ n3_ n4_ n5_ n6_ n7_ n8_ n9_ n10_; clear hb hbox hg; have hnb58 := NB185_163.out; have hnc58 := NB163_185.out; have hnb59 := NB185_164.out; have hnc59 := NB164_185.out; have hcz60_0 : w57.cell? ⟨gb185, 0, none⟩ = some (.int .i64 0) := (Zk BK185.out 0).trans rfl; have hcz60_1 : w57.cell? ⟨gb185, 1, none⟩ = some (.slice none 0 0) := (Zk BK185.out 1).trans rfl; have hfz60_0 := Zl BK185.out 0; have hfz60_1 := Zl BK185.out 1; have hcz61_0 : w57.cell? ⟨gb163, 0, none⟩ = some (.int .i64 a0_0) := (Zk BK163.out 0).trans rfl; have hcz61_1 : w57.cell? ⟨gb163, 1, none⟩ = some (.slice A0_1 l0_1.length c0_1) := (Zk BK163.out 1).trans rfl; have hfz61_0 := Zl BK163.out 0; have hfz61_1 := Zl BK163.out 1))
       go_loopg [51] k2 (fun kq v51 w' => ∃ (x51_3 : Int) (x186001_3 : List (List Int)) (u186001 : Value), v51 = .int .i64 x51_3 ∧ Aside0 (impl_Renamed.l1 kq l1 l0_1 (l0_1.length : Int) x51_3 a0_0 x186001_3 = some (r1, r2, r3)) ∧ Aside0 (kq ≤ k2) ∧ Aside0 (Kd.S (Kd.slice 3 (Kd.int .i64)) 31 w' w.heap.size (fun _ => True) u186001 x186001_3) ∧ Aside0 (w'.heap[gb163]? = some (.cells #[.int .i64 a0_0, (.slice A0_1 l0_1.length c0_1)] 27 (0, 0))) ∧ Aside0 (w'.heap[gb164]? = some (.cells #[.int .i64 x165000_2, (.slice none 0 0)] 27 (0, 0))) ∧ Aside0 (w'.heap[gb185]? = some (.cells #[.int .i64 a0_0, u186001] 27 (0, 0))) ∧ Aside0 (Below w.heap.size w w'))
       case atStart => exact ⟨(0), (y182), (.slice Ao56 y182.length co56), (by first | rfl | (simp; done) | (simp [*]; done)), H', ⟨Nat.le_refl _⟩, ⟨by (with_reducible repeat (first | apply Zn | apply Zm | apply Zo)); exact Zy (ZB (p := ⟨gb185, 1, none⟩) (ZB (p := ⟨gb185, 0, none⟩) (ZJ HO184.out BK185.out (by decide)) (fun _ hk => hk.2) (.int .i64 a0_0)) (fun _ hk => hk.2) (.slice Ao56 y182.length co56)) (fun _ hk => trivial)⟩, ⟨by (with_reducible repeat (first | refine Zg ?_ _ | refine Zh ?_ | refine Zf ?_ _)); refine ZP ?_ NB163_185.out _; (with_reducible repeat (first | refine Zg ?_ _ | refine Zh ?_ | refine Zf ?_ _)); refine ZP ?_ NB163_185.out _; (with_reducible repeat (first | refine Zg ?_ _ | refine Zh ?_ | refine Zf ?_ _)); exact BK163.out⟩, ⟨by (with_reducible repeat (first | refine Zg ?_ _ | refine Zh ?_ | refine Zf ?_ _)); refine ZP ?_ NB164_185.out _; (with_reducible repeat (first | refine Zg ?_ _ | refine Zh ?_ | refine Zf ?_ _)); refine ZP ?_ NB164_185.out _; (with_reducible repeat (first | refine Zg ?_ _ | refine Zh ?_ | refine Zf ?_ _)); exact BK164.out⟩, ⟨by (with_reducible repeat (first | refine Zg ?_ _ | refine Zh ?_ | refine Zf ?_ _)); refine blk_put (cs := #[.int .i64 a0_0, .slice none 0 0]) ?_ 1 _ rfl; (with_reducible repeat (first | refine Zg ?_ _ | refine Zh ?_ | refine Zf ?_ _)); refine blk_put (cs := #[.int .i64 0, .slice none 0 0]) ?_ 0 _ rfl; (with_reducible repeat (first | refine Zg ?_ _ | refine Zh ?_ | refine Zf ?_ _)); exact BK185.out⟩, ⟨by repeat (first | (with_reducible first | exact HB.out | apply Zj | apply Ze | apply Zi | refine Zd ?_ GE163.out | refine Zd ?_ GE164.out | refine Zd ?_ GE185.out) | exact HB.out)⟩⟩
       case round =>
        clear H'
        try clear c1
        try clear p1
        try clear q1
        try clear hx1
        try clear c2
        try clear p2
        try clear c3
        try clear c4
        try clear c5
        try clear c6
        try clear p6
        try clear c7
        try clear c8
        try clear c9
        try clear c12
        try clear c15
        try clear c17
        try clear p17
        try clear q17
        try clear hx17
        try clear c22
        try clear c22b0
        try clear c23
        try clear c23b0
        try clear c24
        try clear c24b0
        try clear c26
        try clear c27
        try clear c27b0
        try clear c28
        try clear c28b0
        try clear c28b1
        try clear c30
        try clear c32
        try clear c40
        try clear c45
        try clear c48
        try clear c52
        try clear c58
        try clear c59
        try clear c61
        try clear hcz11_0
        try clear hcz11_1
        try clear hcz13_0
        try clear hcz13_1
        try clear hcz18_0
        try clear hcz18_1
        try clear hcz20_0
        try clear hcz20_1
        try clear hcz33_0
        try clear hcz33_1
        try clear hcz36_0
        try clear hcz36_1
        try clear hcz38_0
        try clear hcz38_1
        try clear hcz41_0
        try clear hcz41_1
        try clear hcz46_0
        try clear hcz46_1
        try clear hcz48_0
        try clear hcz48_1
        try clear hcz50_0
        try clear hcz50_1
        try clear hcz53_0
        try clear hcz53_1
        try clear hcz60_0
        try clear hcz60_1
        try clear hcz61_0
        try clear hcz61_1
        try clear hcz9_0
        try clear hcz9_1
        try clear hfz11_0
        try clear hfz11_1
        try clear hfz13_0
        try clear hfz13_1
        try clear hfz18_0
        try clear hfz18_1
        try clear hfz20_0
        try clear hfz20_1
        try clear hfz33_0
        try clear hfz33_1
        try clear hfz36_0
        try clear hfz36_1
        try clear hfz38_0
        try clear hfz38_1
        try clear hfz41_0
        try clear hfz41_1
        try clear hfz46_0
        try clear hfz46_1
        try clear hfz48_0
        try clear hfz48_1
        try clear hfz50_0
        try clear hfz50_1
        try clear hfz53_0
        try clear hfz53_1
        try clear hfz60_0
        try clear hfz60_1
        try clear hfz61_0
        try clear hfz61_1
        try clear hfz9_0
        try clear hfz9_1
        try clear hx170_0
        try clear p170
        try clear p2
        try clear q170
        obtain ⟨x51_3, x186001_3, u186001, rfl, HA, HK3, HO_186001, BK163, BK164, BK185, HB⟩ := hrel
        cases gk with
        | zero => exact absurd HA.out (by simp [impl_Renamed.l1])
        | succ k3 =>
         have H := HA.out
         clear HA
         simp only [impl_Renamed.l1] at H
         by_cases c62 : x51_3 < (l0_1.length : Int)
         ·rw [if_pos c62] at H
          have c62b0 : decide (x51_3 < (l0_1.length : Int)) = true := decide_eq_true c62
          clear c62
          by_cases c63 : 0 ≤ x51_3
          ·rw [if_pos c63] at H
           have c63b0 : decide (0 ≤ x51_3) = true := decide_eq_true c63
           clear c63
           by_cases c64 : x51_3 < (l0_1.length : Int)
           ·rw [if_pos c64] at H
            have c64b0 : decide (x51_3 < (l0_1.length : Int)) = true := decide_eq_true c64
            clear c64
            by_cases c65 : 0 < ((rd_L1 l0_1 x51_3).length : Int)
            ·rw [if_pos c65] at H
             have c65b0 : decide (0 < ((rd_L1 l0_1 x51_3).length : Int)) = true := decide_eq_true c65
             have c65b1 : decide (0 < (rd_L1 l0_1 x51_3).length) = true := decide_eq_true (by omega)
             clear c65
             by_cases c66 : 0 ≤ (rd (rd_L1 l0_1 x51_3) 0)
             ·rw [if_pos c66] at H
              have c66b0 : decide (0 ≤ (rd (rd_L1 l0_1 x51_3) 0)) = true := decide_eq_true c66
              clear c66
              by_cases c67 : (rd (rd_L1 l0_1 x51_3) 0) < (l1.length : Int)
              ·rw [if_pos c67] at H
               have c67b0 : decide ((rd (rd_L1 l0_1 x51_3) 0) < (l1.length : Int)) = true := decide_eq_true c67
               clear c67
               by_cases c68 : 1 < ((rd_L1 l0_1 x51_3).length : Int)
               ·rw [if_pos c68] at H
                have c68b0 : decide (1 < ((rd_L1 l0_1 x51_3).length : Int)) = true := decide_eq_true c68
                have c68b1 : decide (1 < (rd_L1 l0_1 x51_3).length) = true := decide_eq_true (by omega)
                clear c68
                by_cases c69 : 0 ≤ (rd (rd_L1 l0_1 x51_3) 1)
                ·rw [if_pos c69] at H
                 have c69b0 : decide (0 ≤ (rd (rd_L1 l0_1 x51_3) 1)) = true := decide_eq_true c69
                 clear c69
                 by_cases c70 : (rd (rd_L1 l0_1 x51_3) 1) < (l1.length : Int)
                 ·rw [if_pos c70] at H
                  have c70b0 : decide ((rd (rd_L1 l0_1 x51_3) 1) < (l1.length : Int)) = true := decide_eq_true c70
                  clear c70
                  obtain ⟨y191, hy191⟩ : ∃ y_ : List Int, y_ = (([rd l1 (rd (rd_L1 l0_1 x51_3) 0), rd l1 (rd (rd_L1 l0_1 x51_3) 1)] : List Int)) := ⟨_, rfl⟩
                  replace H : (if x186001_3.length < 5864062014805 then (impl_Renamed.l1 k3 l1 l0_1 (l0_1.length : Int) (wrap64 (x51_3 + 1)) a0_0 (x186001_3 ++ [y191])) else (none)) = some (r1, r2, r3) := by first | (rw [hy191]; with_reducible exact H) | (have H2_ := (Option.bind_some _ _).symm.trans H; rw [hy191]; with_reducible exact H2_) | (have H2_ := (Option.bind_some _ _).symm.trans H; with_reducible exact H2_) | with_reducible exact H | (rw [hy191]; exact H) | exact H
                  have Ny191 := Aside0.mk hy191
                  clear hy191
                  by_cases c71 : x186001_3.length < 5864062014805
                  ·rw [if_pos c71] at H
                   have LMc71 := Aside0.mk c71
                   clear c71
                   obtain ⟨y194, hy194⟩ : ∃ y_ : List (List Int), y_ = (x186001_3 ++ [y191]) := ⟨_, rfl⟩
                   replace H : (impl_Renamed.l1 k3 l1 l0_1 (l0_1.length : Int) (wrap64 (x51_3 + 1)) a0_0 y194) = some (r1, r2, r3) := by first | (rw [hy194]; with_reducible exact H) | (have H2_ := (Option.bind_some _ _).symm.trans H; rw [hy194]; with_reducible exact H2_) | (have H2_ := (Option.bind_some _ _).symm.trans H; with_reducible exact H2_) | with_reducible exact H | (rw [hy194]; exact H) | exact H
                   have Ny194 := Aside0.mk hy194
                   clear hy194
                   have H' := Aside0.mk H
                   clear H
                   have p186 : 0 ≤ (x51_3 : Int) := of_decide_eq_true (by first | (with_reducible assumption) | assumption)
                   have q186 : x51_3 < (l0_1.length : Int) := of_decide_eq_true (by first | (with_reducible assumption) | assumption)
                   obtain ⟨ad186, A186_0, c186_0, e186, hx186_0, hl186_0, hi186_0⟩ := at_L1 HR0_1.out x51_3 p186 q186
                   cases e186
                   replace hx186_0 := (HB.out.cell (World.block_lt_of_cell? w _ hx186_0)).trans hx186_0
                   have HR186_0 := Aside0.mk hi186_0
                   have HC186_0 := Aside0.mk hl186_0
                   clear hi186_0 hl186_0
                   replace p186 := eq_true p186
                   replace q186 := eq_true q186
                   try go_wp2
                   have n0_ := Aside0.mk (Zo HO_186001.out)
                   have n1_ := Aside0.mk (Zh BK163.out)
                   have n2_ := Aside0.mk (Zh BK164.out)
                   have n3_ := Aside0.mk (Zh BK185.out)
                   have n4_ := Aside0.mk (Zi HB.out)
                   clear HO_186001
                   clear BK163
                   clear BK164
                   clear BK185
                   clear HB
                   have HO_186001 := n0_
                   have BK163 := n1_
                   have BK164 := n2_
                   have BK185 := n3_
                   have HB := n4_
                   clear n0_ n1_ n2_ n3_ n4_
                   have p187 : 0 ≤ (0 : Int) := (by omega)
                   have q187 : 0 < ((rd_L1 l0_1 x51_3).length : Int) := of_decide_eq_true (by first | (with_reducible assumption) | assumption)
                   obtain ⟨ad187, e187, hx187_0⟩ := ZI HR186_0.out 0 p187 q187
                   have hw187_0 := hx187_0
                   (try rw [show ((0 : Int)).toNat = 0 from rfl] at hw187_0)
                   (try rw [show 0 * 1 = 0 from rfl] at hw187_0)
                   (try rw [Addr.add_zero'] at hw187_0)
                   cases e187
                   have qi187 : (0 < (rd_L1 l0_1 x51_3).length) = True := eq_true (by omega)
                   (try rw [show ((0 : Int)).toNat = 0 from rfl] at hx187_0)
                   (try rw [Addr.add_zero'] at hx187_0)
                   replace hx187_0 := (HB.out.cell (World.block_lt_of_cell? w _ hx187_0)).trans hx187_0
                   replace p187 := eq_true p187
                   replace q187 := eq_true q187
                   have p188 : 0 ≤ ((rd (rd_L1 l0_1 x51_3) 0) : Int) := of_decide_eq_true (by first | (with_reducible assumption) | assumption)
                   have q188 : (rd (rd_L1 l0_1 x51_3) 0) < (l1.length : Int) := of_decide_eq_true (by first | (with_reducible assumption) | assumption)
                   obtain ⟨ad188, e188, hx188_0⟩ := ZI HR1.out (rd (rd_L1 l0_1 x51_3) 0) p188 q188
                   have hw188_0 := hx188_0
                   cases e188
                   replace hx188_0 := (HB.out.cell (World.block_lt_of_cell? w _ hx188_0)).trans hx188_0
                   replace p188 := eq_true p188
                   replace q188 := eq_true q188
                   have p189 : 0 ≤ (1 : Int) := (by omega)
                   have q189 : 1 < ((rd_L1 l0_1 x51_3).length : Int) := of_decide_eq_true (by first | (with_reducible assumption) | assumption)
                   obtain ⟨ad189, e189, hx189_0⟩ := ZI HR186_0.out 1 p189 q189
                   have hw189_0 := hx189_0
                   (try rw [show ((1 : Int)).toNat = 1 from rfl] at hw189_0)
                   (try rw [show 1 * 1 = 1 from rfl] at hw189_0)
                   (try simp only [Nat.reduceMul, Nat.reduceEqDiff, Go.Addr.add, ↓reduceIte] at hw189_0)
                   obtain rfl : ad187 = ad189 := (by injection e189)
                   (try simp only [show (1 : Int).toNat = 1 from rfl, Nat.reduceMul, Nat.reduceEqDiff, Go.Addr.add, ↓reduceIte] at hx189_0)
                   have qi189 : (1 < (rd_L1 l0_1 x51_3).length) = True := eq_true (by omega)
                   (try rw [show ((1 : Int)).toNat = 1 from rfl] at hx189_0)
                   replace hx189_0 := (HB.out.cell (World.block_lt_of_cell? w _ hx189_0)).trans hx189_0
                   replace p189 := eq_true p189
                   replace q189 := eq_true q189
                   have p190 : 0 ≤ ((rd (rd_L1 l0_1 x51_3) 1) : Int) := of_decide_eq_true (by first | (with_reducible assumption) | assumption)
                   have q190 : (rd (rd_L1 l0_1 x51_3) 1) < (l1.length : Int) := of_decide_eq_true (by first | (with_reducible assumption) | assumption)
                   obtain ⟨ad190, e190, hx190_0⟩ := ZI HR1.out (rd (rd_L1 l0_1 x51_3) 1) p190 q190
                   have hw190_0 := hx190_0
                   obtain rfl : ad188 = ad190 := (by injection e190)
                   replace hx190_0 := (HB.out.cell (World.block_lt_of_cell? w _ hx190_0)).trans hx190_0
                   replace p190 := eq_true p190
                   replace q190 := eq_true q190
                   refine start_ (n := 19) (S := fun w' => w'.cell? ⟨gb185, 0, none⟩ = some (.int .i64 a0_0) ∧ w'.cell? ⟨gb185, 1, none⟩ = some (u186001) ∧ w'.cell? ad187 = some (.int .i64 (rd (rd_L1 l0_1 x51_3) 0)) ∧ w'.cell? (ad188.add ((rd (rd_L1 l0_1 x51_3) 0)).toNat) = some (.int .i64 (rd l1 (rd (rd_L1 l0_1 x51_3) 0))) ∧ w'.cell? ⟨ad187.block, ad187.off + 1, none⟩ = some (.int .i64 (rd (rd_L1 l0_1 x51_3) 1)) ∧ w'.cell? (ad188.add ((rd (rd_L1 l0_1 x51_3) 1)).toNat) = some (.int .i64 (rd l1 (rd (rd_L1 l0_1 x51_3) 1)))) (ds := [18]) #[O,O,O,O,O,O,O,O,O,O,O,O,O,O,O,O,O,O,O] (by kernel_rfl) rfl rfl ⟨(Zk BK185.out 0).trans rfl, (Zk BK185.out 1).trans rfl, ((HB.out.cell (World.block_lt_of_cell? w _ hw187_0)).trans hw187_0), ((HB.out.cell (World.block_lt_of_cell? w _ hw188_0)).trans hw188_0), ((HB.out.cell (World.block_lt_of_cell? w _ hw189_0)).trans hw189_0), ((HB.out.cell (World.block_lt_of_cell? w _ hw190_0)).trans hw190_0)⟩ (fun hHeld => ?_); refine with_tabW impl_Renamed.tab13 impl_Renamed.bits13 (fun HT_ HW_ => ?_)
                   generalize wr.drew = w72 at HO_186001 BK163 BK164 BK185 HB hx187_0 hx188_0 hx189_0 hx190_0 hHeld ⊢
                   refine Zx (i := 0) (N := some 55) (v := ?_) (a' := ?_) #[Y,O,O,O,O,O,O,O,O,O,O,O,O,O,O,O,O,O,O] rfl rfl (Zt HT_.out (by kernel_rfl)) (fun _ _ _ h => h) (Or.inl ⟨by rfl, ?_⟩) ?_ ?_
                   rotate_left
                   ·intro w'
                    go_simp
                    with_reducible rfl
                   rotate_left
                   ·simp only [Act.put, Za, Zb, Zc, Zq, Zr]
                    rfl
                   refine Zx (i := 2) (N := some 57) (v := ?_) (a' := ?_) #[Y,O,Y,O,O,O,O,O,O,O,O,O,O,O,O,O,O,O,O] rfl rfl (Zt HT_.out (by kernel_rfl)) (fun _ _ _ h => h) (Or.inl ⟨by rfl, ?_⟩) ?_ ?_
                   rotate_left
                   ·intro w'
                    go_simp
                    with_reducible rfl
                   rotate_left
                   ·simp only [Act.put, Za, Zb, Zc, Zq, Zr]
                    rfl
                   refine Zx (i := 3) (N := some 58) (v := ?_) (a' := ?_) #[Y,O,Y,Y,O,O,O,O,O,O,O,O,O,O,O,O,O,O,O] rfl rfl (Zt HT_.out (by kernel_rfl)) (fun _ _ _ h => h) (Or.inl ⟨by rfl, ?_⟩) ?_ ?_
                   rotate_left
                   ·intro w'
                    go_simp
                    with_reducible rfl
                   rotate_left
                   ·simp only [Act.put, Za, Zb, Zc, Zq, Zr]
                    rfl
                   refine Zx (i := 4) (N := some 59) (v := ?_) (a' := ?_) #[Y,O,Y,Y,Y,O,O,O,O,O,O,O,O,O,O,O,O,O,O] rfl rfl (Zt HT_.out (by kernel_rfl)) (fun _ _ _ h => h) (Or.inl ⟨by rfl, ?_⟩) ?_ ?_
                   rotate_left
                   ·intro w'
                    go_simp
                    with_reducible rfl
                   rotate_left
                   ·simp only [Act.put, Za, Zb, Zc, Zq, Zr]
                    rfl
                   refine Zx (i := 8) (N := some 63) (v := ?_) (a' := ?_) #[Y,O,Y,Y,Y,O,O,O,Y,O,O,O,O,O,O,O,O,O,O] rfl rfl (Zt HT_.out (by kernel_rfl)) (fun _ _ _ h => h) (Or.inl ⟨by rfl, ?_⟩) ?_ ?_
                   rotate_left
                   ·intro w'
                    go_simp
                    with_reducible rfl
                   rotate_left
                   ·simp only [Act.put, Za, Zb, Zc, Zq, Zr]
                    rfl
                   refine Zx (i := 9) (N := some 64) (v := ?_) (a' := ?_) #[Y,O,Y,Y,Y,O,O,O,Y,Y,O,O,O,O,O,O,O,O,O] rfl rfl (Zt HT_.out (by kernel_rfl)) (fun _ _ _ h => h) (Or.inl ⟨by rfl, ?_⟩) ?_ ?_
                   rotate_left
                   ·intro w'
                    go_simp
                    with_reducible rfl
                   rotate_left
                   ·simp only [Act.put, Za, Zb, Zc, Zq, Zr]
                    rfl
                   refine Zx (i := 10) (N := some 65) (v := ?_) (a' := ?_) #[Y,O,Y,Y,Y,O,O,O,Y,Y,Y,O,O,O,O,O,O,O,O] rfl rfl (Zt HT_.out (by kernel_rfl)) (fun _ _ _ h => h) (Or.inl ⟨by rfl, ?_⟩) ?_ ?_
                   rotate_left
                   ·intro w'
                    go_simp
                    with_reducible rfl
                   rotate_left
                   ·simp only [Act.put, Za, Zb, Zc, Zq, Zr]
                    rfl
                   refine take_ (i := 1) (N := some 56) (v := ?_) (a' := ?_) #[Y,Y,Y,Y,Y,O,O,O,Y,Y,Y,O,O,O,O,O,O,O,O] rfl rfl (take_ofW HT_.out HW_.out (by kernel_rfl)) (fun _ _ _ h => h) (Or.inl ⟨by rfl, ?_⟩) hHeld ?_ ?_
                   rotate_left
                   ·rintro w' ⟨s0, s1, s2, s3, s4, s5⟩
                    go_simp
                    with_reducible rfl
                   rotate_left
                   ·simp only [Act.put, Za, Zb, Zc, Zq, Zr]
                    rfl
                   refine take_ (i := 5) (N := some 60) (v := ?_) (a' := ?_) #[Y,Y,Y,Y,Y,Y,O,O,Y,Y,Y,O,O,O,O,O,O,O,O] rfl rfl (take_ofW HT_.out HW_.out (by kernel_rfl)) (fun _ _ _ h => h) (Or.inl ⟨by rfl, ?_⟩) hHeld ?_ ?_
                   rotate_left
                   ·rintro w' ⟨s0, s1, s2, s3, s4, s5⟩
                    go_simp
                    with_reducible rfl
                   rotate_left
                   ·simp only [Act.put, Za, Zb, Zc, Zq, Zr]
                    rfl
                   refine Zx (i := 6) (N := some 61) (v := ?_) (a' := ?_) #[Y,Y,Y,Y,Y,Y,Y,O,Y,Y,Y,O,O,O,O,O,O,O,O] rfl rfl (Zt HT_.out (by kernel_rfl)) (fun _ _ _ h => h) (Or.inl ⟨by rfl, ?_⟩) ?_ ?_
                   rotate_left
                   ·intro w'
                    go_simp
                    with_reducible rfl
                   rotate_left
                   ·simp only [Act.put, Za, Zb, Zc, Zq, Zr]
                    rfl
                   refine take_ (i := 7) (N := some 62) (v := ?_) (a' := ?_) #[Y,Y,Y,Y,Y,Y,Y,Y,Y,Y,Y,O,O,O,O,O,O,O,O] rfl rfl (take_ofW HT_.out HW_.out (by kernel_rfl)) (fun _ _ _ h => h) (Or.inl ⟨by rfl, ?_⟩) hHeld ?_ ?_
                   rotate_left
                   ·rintro w' ⟨s0, s1, s2, s3, s4, s5⟩
                    go_simp
                    with_reducible rfl
                   rotate_left
                   ·simp only [Act.put, Za, Zb, Zc, Zq, Zr]
                    rfl
                   refine take_ (i := 11) (N := some 66) (v := ?_) (a' := ?_) #[Y,Y,Y,Y,Y,Y,Y,Y,Y,Y,Y,Y,O,O,O,O,O,O,O] rfl rfl (take_ofW HT_.out HW_.out (by kernel_rfl)) (fun _ _ _ h => h) (Or.inl ⟨by rfl, ?_⟩) hHeld ?_ ?_
                   rotate_left
                   ·rintro w' ⟨s0, s1, s2, s3, s4, s5⟩
                    go_simp
                    with_reducible rfl
                   rotate_left
                   ·simp only [Act.put, Za, Zb, Zc, Zq, Zr]
                    rfl
                   refine Zx (i := 12) (N := some 67) (v := ?_) (a' := ?_) #[Y,Y,Y,Y,Y,Y,Y,Y,Y,Y,Y,Y,Y,O,O,O,O,O,O] rfl rfl (Zt HT_.out (by kernel_rfl)) (fun _ _ _ h => h) (Or.inl ⟨by rfl, ?_⟩) ?_ ?_
                   rotate_left
                   ·intro w'
                    go_simp
                    with_reducible rfl
                   rotate_left
                   ·simp only [Act.put, Za, Zb, Zc, Zq, Zr]
                    rfl
                   refine take_ (i := 13) (N := some 68) (v := ?_) (a' := ?_) #[Y,Y,Y,Y,Y,Y,Y,Y,Y,Y,Y,Y,Y,Y,O,O,O,O,O] rfl rfl (take_ofW HT_.out HW_.out (by kernel_rfl)) (fun _ _ _ h => h) (Or.inl ⟨by rfl, ?_⟩) hHeld ?_ ?_
                   rotate_left
                   ·rintro w' ⟨s0, s1, s2, s3, s4, s5⟩
                    go_simp
                    with_reducible rfl
                   rotate_left
                   ·simp only [Act.put, Za, Zb, Zc, Zq, Zr]
                    rfl
                   refine one_ (i := 14) (N := some 69) #[Y,Y,Y,Y,Y,Y,Y,Y,Y,Y,Y,Y,Y,Y,Y,O,O,O,O] rfl rfl (one_of HT_.out (by kernel_rfl)) (by decide) (fun K hK => ?_)
                   refine Kd.R_lit_step (Kd.int .i64) _ 3 ?hg (N := 69) ?hd (xs := ([rd l1 (rd (rd_L1 l0_1 x51_3) 0), rd l1 (rd (rd_L1 l0_1 x51_3) 1)] : List Int)) (inner := [.int .i64 (rd l1 (rd (rd_L1 l0_1 x51_3) 0)), .int .i64 (rd l1 (rd (rd_L1 l0_1 x51_3) 1))]) (ok := fun _ => True) (okp := fun _ => True) ?hr ?hp (fun _ hk => hk) trivial (Below.refl _ _) (Nat.le_refl _) (by simp) ?_; (case hd => rfl); (case hg => rfl); (case hr => first | (go_simp; done) | (go_simp; rfl)); (case hp => exact (Reps.one (show Kd.M (Kd.int .i64) _ _ _ (rd l1 (rd (rd_L1 l0_1 x51_3) 0)) [.int .i64 (rd l1 (rd (rd_L1 l0_1 x51_3) 0))] from rfl) (Reps.one (show Kd.M (Kd.int .i64) _ _ _ (rd l1 (rd (rd_L1 l0_1 x51_3) 1)) [.int .i64 (rd l1 (rd (rd_L1 l0_1 x51_3) 1))] from rfl) (Reps.none _ _))))
                   intro v192 w73 ho74 hb hg_ hnew_
                   clear hg_ hnew_
                   (first | rw [← Ny191.out] at ho74 | (simp only [Int.reduceToNat] at ho74; rw [← Ny191.out] at ho74))
                   have n0_ := Aside0.mk (ZK (by (with_reducible repeat (first | apply Zn | apply Zm | apply Zo)); exact HO_186001.out) (Kd.R_base ho74) hb)
                   have n1_ := Aside0.mk (Kd.R_lower ho74 (Zs (by repeat (first | (with_reducible first | exact HB.out | apply Zj | apply Ze | apply Zi | refine Zd ?_ GE163.out | refine Zd ?_ GE164.out | refine Zd ?_ GE185.out) | exact HB.out))))
                   have n2_ := Aside0.mk (Zp (g := gb163) (o := .cells #[.int .i64 a0_0, .slice (some ad186) l0_1.length c0_1] 27 (0, 0)) (by (with_reducible repeat (first | refine Zg ?_ _ | refine Zh ?_ | refine Zf ?_ _)); exact BK163.out) hb)
                   have n3_ := Aside0.mk (Zp (g := gb164) (o := .cells #[.int .i64 x165000_2, .slice none 0 0] 27 (0, 0)) (by (with_reducible repeat (first | refine Zg ?_ _ | refine Zh ?_ | refine Zf ?_ _)); exact BK164.out) hb)
                   have n4_ := Aside0.mk (Zp (g := gb185) (o := .cells #[.int .i64 a0_0, u186001] 27 (0, 0)) (by (with_reducible repeat (first | refine Zg ?_ _ | refine Zh ?_ | refine Zf ?_ _)); exact BK185.out) hb)
                   have n5_ := Aside0.mk (Zu (by repeat (first | (with_reducible first | exact HB.out | apply Zj | apply Ze | apply Zi | refine Zd ?_ GE163.out | refine Zd ?_ GE164.out | refine Zd ?_ GE185.out) | exact HB.out)) hb)
                   clear HO_186001
                   clear BK163
                   clear BK164
                   clear BK185
                   clear HB
                   have HO_186001 := n0_
                   have HO193 := n1_
                   have BK163 := n2_
                   have BK164 := n3_
                   have BK185 := n4_
                   have HB := n5_
                   clear n0_ n1_ n2_ n3_ n4_ n5_
                   clear hb ho74
                   obtain ⟨Ao76, co76, eo76⟩ := Kd.R_slice HO193.out
                   (first | subst eo76 | (injection eo76 with f1_ f2_ f3_; have f4_ := f1_.symm; have f5_ := f3_.symm; clear f1_ f2_ f3_; subst f4_; subst f5_))
                   refine hK.out _ _ ⟨(Zk BK185.out 0).trans rfl, (Zk BK185.out 1).trans rfl, ((HB.out.cell (World.block_lt_of_cell? w _ hw187_0)).trans hw187_0), ((HB.out.cell (World.block_lt_of_cell? w _ hw188_0)).trans hw188_0), ((HB.out.cell (World.block_lt_of_cell? w _ hw189_0)).trans hw189_0), ((HB.out.cell (World.block_lt_of_cell? w _ hw190_0)).trans hw190_0)⟩ (fun hHeld => ?_)
                   clear hK K
                   refine norm_ (a' := ?_) ?_ ?_
                   rotate_left
                   ·show Act.put _ (some 69) _ = _
                    simp only [Act.put, Za, Zb, Zc, Zq, Zr]
                    rfl
                   refine one_ (i := 15) (N := some 70) #[Y,Y,Y,Y,Y,Y,Y,Y,Y,Y,Y,Y,Y,Y,Y,Y,O,O,O] rfl rfl (one_of HT_.out (by kernel_rfl)) (by decide) (fun K hK => ?_)
                   refine value_ (w1 := ?_) (v := ?_) (by rfl) rfl ?_ ?_
                   rotate_left 2
                   ·go_simp
                    constructor
                    ·rfl
                    ·rfl
                   refine hK.out _ _ ⟨(Zk (Zf BK185.out _) 0).trans rfl, (Zk (Zf BK185.out _) 1).trans rfl, (World.cell?_alloc_lt _ _ _ (World.block_lt_of_cell? _ _ (((HB.out.cell (World.block_lt_of_cell? w _ hw187_0)).trans hw187_0)))).trans (((HB.out.cell (World.block_lt_of_cell? w _ hw187_0)).trans hw187_0)), (World.cell?_alloc_lt _ _ _ (World.block_lt_of_cell? _ _ (((HB.out.cell (World.block_lt_of_cell? w _ hw188_0)).trans hw188_0)))).trans (((HB.out.cell (World.block_lt_of_cell? w _ hw188_0)).trans hw188_0)), (World.cell?_alloc_lt _ _ _ (World.block_lt_of_cell? _ _ (((HB.out.cell (World.block_lt_of_cell? w _ hw189_0)).trans hw189_0)))).trans (((HB.out.cell (World.block_lt_of_cell? w _ hw189_0)).trans hw189_0)), (World.cell?_alloc_lt _ _ _ (World.block_lt_of_cell? _ _ (((HB.out.cell (World.block_lt_of_cell? w _ hw190_0)).trans hw190_0)))).trans (((HB.out.cell (World.block_lt_of_cell? w _ hw190_0)).trans hw190_0))⟩ (fun hHeld => ?_)
                   clear hK K
                   refine norm_ (a' := ?_) ?_ ?_
                   rotate_left
                   ·show Act.put _ (some 70) _ = _
                    simp only [Act.put, Za, Zb, Zc, Zq, Zr]
                    rfl
                   refine one_ (i := 16) (N := some 71) #[Y,Y,Y,Y,Y,Y,Y,Y,Y,Y,Y,Y,Y,Y,Y,Y,Y,O,O] rfl rfl (one_of HT_.out (by kernel_rfl)) (by decide) (fun K hK => ?_)
                   refine Kd.S_append_step (Kd.slice 3 (Kd.int .i64)) (w0 := w) w.heap.size (by rfl) (.tmp 56) (.tmp 70) 22 31 (.slice none 0 0) 24 rfl Try.underlying22 info31 rfl (by decide) (by omega) u186001 x186001_3 y191 [.slice Ao76 y191.length co76] (fun _ => True) (fun k_ => some k_ = (.slice Ao76 y191.length co76 : Value).ownBlock) rfl rfl ?aP (fun k_ hk_ => ((ZR (ok' := fun k_ => ((fun _ => True)) k_ ∧ some k_ ≠ (u186001 : Value).ownBlock) (Kd.R_apart' (HO193.out) (Kd.S_typed HO_186001.out) (by decide)) (fun k_ hk => ⟨trivial, hk.2⟩))).1 k_ hk_.symm) ?aF ?aO ?aB ?aS ?aL ?_
                   (case aP => exact Kd.M_row (ZR (Kd.R_tight rfl (ZR (ok' := fun k_ => ((fun _ => True)) k_ ∧ some k_ ≠ (u186001 : Value).ownBlock) (Kd.R_apart' (HO193.out) (Kd.S_typed HO_186001.out) (by decide)) (fun k_ hk => ⟨trivial, hk.2⟩))) (fun _ h_ => h_)))
                   (case aB => exact (by repeat (first | (with_reducible first | exact HB.out | apply Zj | apply Ze | apply Zi | refine Zd ?_ GE163.out | refine Zd ?_ GE164.out | refine Zd ?_ GE185.out) | exact HB.out)))
                   (case aF => exact (fun _ _ => trivial))
                   (case aO => exact (by (with_reducible repeat (first | apply Zn | apply Zm | apply Zo)); exact Zy HO_186001.out (fun k_ hk => ⟨trivial, fun e_ => hk.2 e_⟩)))
                   (case aS => exact (Zs (by repeat (first | (with_reducible first | exact HB.out | apply Zj | apply Ze | apply Zi | refine Zd ?_ GE163.out | refine Zd ?_ GE164.out | refine Zd ?_ GE185.out) | exact HB.out))))
                   (case aL => have := LMc71.out; omega)
                   intro v195 w75 ho hb hg hat
                   rw [← Ny194.out] at ho
                   have n0_ := Aside0.mk (ZS (g := gb163) (o := .cells #[.int .i64 a0_0, .slice (some ad186) l0_1.length c0_1] 27 (0, 0)) (by (with_reducible repeat (first | refine Zg ?_ _ | refine Zh ?_ | refine Zf ?_ _)); exact BK163.out) hg (Kd.S_ne HO_186001.out BK163.out (by decide)))
                   have n1_ := Aside0.mk (ZS (g := gb164) (o := .cells #[.int .i64 x165000_2, .slice none 0 0] 27 (0, 0)) (by (with_reducible repeat (first | refine Zg ?_ _ | refine Zh ?_ | refine Zf ?_ _)); exact BK164.out) hg (Kd.S_ne HO_186001.out BK164.out (by decide)))
                   have n2_ := Aside0.mk (ZS (g := gb185) (o := .cells #[.int .i64 a0_0, u186001] 27 (0, 0)) (by (with_reducible repeat (first | refine Zg ?_ _ | refine Zh ?_ | refine Zf ?_ _)); exact BK185.out) hg (Kd.S_ne HO_186001.out BK185.out (by decide)))
                   have n3_ := Aside0.mk (hb)
                   have n4_ := Aside0.mk (ho)
                   clear BK163
                   clear BK164
                   clear BK185
                   clear HB
                   clear HO_186001
                   clear HO193
                   have BK163 := n0_
                   have BK164 := n1_
                   have BK185 := n2_
                   have HB := n3_
                   have HO196 := n4_
                   clear n0_ n1_ n2_ n3_ n4_
                   clear ho hb hg hat
                   obtain ⟨Ao77, co77, eo77⟩ := Kd.S_slice HO196.out
                   (first | subst eo77 | (injection eo77 with f1_ f2_ f3_; have f4_ := f1_.symm; have f5_ := f3_.symm; clear f1_ f2_ f3_; subst f4_; subst f5_))
                   refine hK.out _ _ ⟨(Zk BK185.out 0).trans rfl, (Zk BK185.out 1).trans rfl, ((HB.out.cell (World.block_lt_of_cell? w _ hw187_0)).trans hw187_0), ((HB.out.cell (World.block_lt_of_cell? w _ hw188_0)).trans hw188_0), ((HB.out.cell (World.block_lt_of_cell? w _ hw189_0)).trans hw189_0), ((HB.out.cell (World.block_lt_of_cell? w _ hw190_0)).trans hw190_0)⟩ (fun hHeld => ?_)
                   clear hK K
                   refine norm_ (a' := ?_) ?_ ?_
                   rotate_left
                   ·show Act.put _ (some 71) _ = _
                    simp only [Act.put, Za, Zb, Zc, Zq, Zr]
                    rfl
                   refine Zx (i := 17) (N := some 72) (v := ?_) (a' := ?_) #[Y,Y,Y,Y,Y,Y,Y,Y,Y,Y,Y,Y,Y,Y,Y,Y,Y,Y,O] rfl rfl (Zt HT_.out (by kernel_rfl)) (fun _ _ _ h => h) (Or.inl ⟨by rfl, ?_⟩) ?_ ?_
                   rotate_left
                   ·intro w'
                    go_simp
                    with_reducible rfl
                   rotate_left
                   ·simp only [Act.put, Za, Zb, Zc, Zq, Zr]
                    rfl
                   refine last_ (i := 18) (N := none) #[Y,Y,Y,Y,Y,Y,Y,Y,Y,Y,Y,Y,Y,Y,Y,Y,Y,Y,Y] rfl rfl (one_of HT_.out (by kernel_rfl)) (by decide) (fun K hK => ?_)
                   have hs78 : w75.cell? ⟨gb185, 1, none⟩ = some (u186001) := (Zk BK185.out 1).trans rfl
                   have hfs78 := Zl BK185.out 1
                   have hns78_0 := NB163_185.out
                   have hns78_1 := NB164_185.out
                   have hms78_0 := NB185_163.out
                   have hms78_1 := NB185_164.out
                   refine skip_ (w1 := ?_) (by rfl) rfl ?_ ?_
                   rotate_left
                   ·go_simp
                    rfl
                   refine hK.out _ _ ?_
                   clear hK K
                   refine done_ (done_of HT_.out (by kernel_rfl)) ?_
                   try go_wp2
                   go_roundg k3
                   case measure => have := HJ2.out; have := HK2.out; have := HK3.out; omega
                   case rel => exact ⟨(wrap64 (x51_3 + 1)), (y194), (.slice Ao77 y194.length co77), (by first | rfl | (simp; done) | (simp [*]; done)), H', ⟨by have := HJ2.out; have := HK2.out; have := HK3.out; omega⟩, ⟨by (with_reducible repeat (first | apply Zn | apply Zm | apply Zo)); exact Zy (ZB (p := ⟨gb185, 1, none⟩) (ZJ HO196.out BK185.out (by decide)) (fun _ hk => hk.2) (.slice Ao77 y194.length co77)) (fun _ hk => trivial)⟩, ⟨by (with_reducible repeat (first | refine Zg ?_ _ | refine Zh ?_ | refine Zf ?_ _)); refine ZP ?_ NB163_185.out _; (with_reducible repeat (first | refine Zg ?_ _ | refine Zh ?_ | refine Zf ?_ _)); exact BK163.out⟩, ⟨by (with_reducible repeat (first | refine Zg ?_ _ | refine Zh ?_ | refine Zf ?_ _)); refine ZP ?_ NB164_185.out _; (with_reducible repeat (first | refine Zg ?_ _ | refine Zh ?_ | refine Zf ?_ _)); exact BK164.out⟩, ⟨by (with_reducible repeat (first | refine Zg ?_ _ | refine Zh ?_ | refine Zf ?_ _)); refine blk_put (cs := #[.int .i64 a0_0, u186001]) ?_ 1 _ rfl; (with_reducible repeat (first | refine Zg ?_ _ | refine Zh ?_ | refine Zf ?_ _)); exact BK185.out⟩, ⟨by repeat (first | (with_reducible first | exact HB.out | apply Zj | apply Ze | apply Zi | refine Zd ?_ GE163.out | refine Zd ?_ GE164.out | refine Zd ?_ GE185.out) | exact HB.out)⟩⟩
                  ·rw [if_neg c71] at H
                   exact absurd H (by simp)
                 ·rw [if_neg c70] at H
                  exact absurd H (by simp)
                ·rw [if_neg c69] at H
                 exact absurd H (by simp)
               ·rw [if_neg c68] at H
                exact absurd H (by simp)
              ·rw [if_neg c67] at H
               exact absurd H (by simp)
             ·rw [if_neg c66] at H
              exact absurd H (by simp)
            ·rw [if_neg c65] at H
             exact absurd H (by simp)
           ·rw [if_neg c64] at H
            exact absurd H (by simp)
          ·rw [if_neg c63] at H
           exact absurd H (by simp)
         ·rw [if_neg c62] at H
          have c62b0 : decide (x51_3 < (l0_1.length : Int)) = false := decide_eq_false c62
          clear c62
          replace H := Option.bind_eq_some_iff.mp H
          obtain ⟨t197, A790, H⟩ := H
          replace H : (some (a0_0, t197, true)) = some (r1, r2, r3) := H
          have A79 := Aside0.mk A790
          clear A790
          simp only [Option.some.injEq, Prod.mk.injEq] at H
          obtain ⟨rfl, rfl, rfl⟩ := H
          have hnb80 := NB185_163.out
          have hnc80 := NB163_185.out
          have hnb81 := NB185_164.out
          have hnc81 := NB164_185.out
          have hcz82_0 : wr.cell? ⟨gb185, 0, none⟩ = some (.int .i64 a0_0) := (Zk BK185.out 0).trans rfl
          have hcz82_1 : wr.cell? ⟨gb185, 1, none⟩ = some (u186001) := (Zk BK185.out 1).trans rfl
          have hfz82_0 := Zl BK185.out 0
          have hfz82_1 := Zl BK185.out 1
          obtain ⟨Ao83, co83, eo83⟩ := Kd.S_slice HO_186001.out
          subst eo83
          go_wp2_with (first | (go_at_call 66; (with_reducible refine (slices_SortFunc_int_int.calls k3 (fun k_ => True) (.slice Ao83 x186001_3.length co83) x186001_3 67 t197 w _ ?side1 ?side2 A79.out).mono ?_); (case side1 => repeat (first | (with_reducible first | exact HB.out | apply Zj | apply Ze | apply Zi | refine Zd ?_ GE163.out | refine Zd ?_ GE164.out | refine Zd ?_ GE185.out) | exact HB.out)); (case side2 => exact (Zy (ok' := fun k_ => True) (HO_186001.out) (fun _ _ => trivial))); rintro e w84 ⟨rfl, hy0, hb, hkp⟩; have n0_ := Aside0.mk (hy0); have n1_ := Aside0.mk (blk_kept (by (with_reducible repeat (first | refine Zg ?_ _ | refine Zh ?_ | refine Zf ?_ _)); exact BK163.out) hkp (fun hs_ => (fun e_ => (Kd.R_ne (Kd.S_R HO_186001.out) BK163.out (by decide)) e_) hs_)); have n2_ := Aside0.mk (blk_kept (by (with_reducible repeat (first | refine Zg ?_ _ | refine Zh ?_ | refine Zf ?_ _)); exact BK164.out) hkp (fun hs_ => (fun e_ => (Kd.R_ne (Kd.S_R HO_186001.out) BK164.out (by decide)) e_) hs_)); have n3_ := Aside0.mk (blk_kept (by (with_reducible repeat (first | refine Zg ?_ _ | refine Zh ?_ | refine Zf ?_ _)); exact BK185.out) hkp (fun hs_ => (fun e_ => (Kd.R_ne (Kd.S_R HO_186001.out) BK185.out (by decide)) e_) hs_)); have n4_ := Aside0.mk (hb); clear HO_186001; clear BK163; clear BK164; clear BK185; clear HB; have HO_186001 := n0_; have BK163 := n1_; have BK164 := n2_; have BK185 := n3_; have HB := n4_; clear n0_ n1_ n2_ n3_ n4_; (try clear hb); (try clear hkp); (try clear hy0); have hcz85_0 : w84.cell? ⟨gb185, 0, none⟩ = some (.int .i64 a0_0) := (Zk BK185.out 0).trans rfl; have hcz85_1 : w84.cell? ⟨gb185, 1, none⟩ = some (.slice Ao83 x186001_3.length co83) := (Zk BK185.out 1).trans rfl; have hfz85_0 := Zl BK185.out 0; have hfz85_1 := Zl BK185.out 1; have hnb86 := NB164_163.out; have hnc86 := NB163_164.out; have hcz87_0 : w84.cell? ⟨gb164, 0, none⟩ = some (.int .i64 x165000_2) := (Zk BK164.out 0).trans rfl; have hcz87_1 : w84.cell? ⟨gb164, 1, none⟩ = some (.slice none 0 0) := (Zk BK164.out 1).trans rfl; have hfz87_0 := Zl BK164.out 0; have hfz87_1 := Zl BK164.out 1))
          refine bodyPost_ret (results_ct rfl _ _ gb164 27 #[.int .i64 a0_0, .slice Ao83 x186001_3.length co83] (0, 0) _ rfl (by (with_reducible repeat (first | refine Zg ?_ _ | refine Zh ?_ | refine Zf ?_ _)); refine blk_put (cs := #[.int .i64 a0_0, .slice none 0 0]) ?_ 1 _ rfl; (with_reducible repeat (first | refine Zg ?_ _ | refine Zh ?_ | refine Zf ?_ _)); refine blk_put (cs := #[.int .i64 x165000_2, .slice none 0 0]) ?_ 0 _ rfl; (with_reducible repeat (first | refine Zg ?_ _ | refine Zh ?_ | refine Zf ?_ _)); exact BK164.out) Try.underlying27 rfl (by kernel_rfl)) rfl ?_
          exact ⟨_, by first | rfl | (simp [errW_none, errW_some] <;> rfl) | (simp [*, errW_none, errW_some] <;> rfl), by (with_reducible repeat (first | apply Zn | apply Zm | apply Zo)); exact Zy (ZB (p := ⟨gb164, 1, none⟩) (ZB (p := ⟨gb164, 0, none⟩) (ZJ HO_186001.out BK164.out (by decide)) (fun _ hk => hk.2) (.int .i64 a0_0)) (fun _ hk => hk.2) (.slice Ao83 x186001_3.length co83)) (fun _ hk => trivial), by repeat (first | (with_reducible first | exact HB.out | apply Zj | apply Ze | apply Zi | refine Zd ?_ GE163.out | refine Zd ?_ GE164.out | refine Zd ?_ GE185.out) | exact HB.out)⟩

end Go.Proofs.Ytdlobolnajcfnaa.PFnExactRenamed
