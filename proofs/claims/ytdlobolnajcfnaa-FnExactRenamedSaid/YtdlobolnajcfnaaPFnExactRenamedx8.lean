-- Written by a program of this session (hooks of mine on the print): Lean checks it.
import Derived.Test.YtdlobolnajcfnaaPFnExactRenamedx0
import Derived.Test.YtdlobolnajcfnaaPFnExactRenamedx6
import Derived.Test.YtdlobolnajcfnaaPFnExactRenamedx7
namespace Go.Proofs.Ytdlobolnajcfnaa.PFnExactRenamed
open Go.RowKit Go.Proofs.YtdlobolnajcfnaaW.PrintWords Go.Proofs.YtdlobolnajcfnaaW.PrintLast Go.Proofs.YtdlobolnajcfnaaW.PrintMore
attribute [local go_sem] max2_int min2_int max_two min_two max_three min_three max_four min_four   -- for this text's walks alone
set_option linter.unusedVariables false
set_option linter.unusedSimpArgs false

/-! ### spec_AddAttack: function 102 -/
mutual
def spec_AddAttack.l0 : Nat → Int → Int → Bool → Int → Int → List (List Int) → Int → List (List Int) → Option (Int × (List (List Int)) × Bool)
 | 0, _, _, _, _, _, _, _, _ => none
 | k + 1, x1, x2, x9, x10, x227000, x227001, x229000, x229001 => if x10 < (x227001.length : Int) then ((spec_IsGraph.f k x227000 x227001).bind fun t229 => (spec_AddAttack.j1 k x1 x2 x9 x10 t229 x227000 x227001 x229000 x229001)) else (spec_AddAttack.j1 k x1 x2 x9 x10 false x227000 x227001 x229000 x229001)
def spec_AddAttack.j1 : Nat → Int → Int → Bool → Int → Bool → Int → List (List Int) → Int → List (List Int) → Option (Int × (List (List Int)) × Bool)
 | 0, _, _, _, _, _, _, _, _, _ => none
 | k + 1, x1, x2, x9, x10, x23, x227000, x227001, x229000, x229001 => if x23 = true then (if 0 ≤ x10 then (if x10 < (x227001.length : Int) then (if x9 = true then ((some (([] : List Int) : List Int)).bind fun y231 => (if y231.length + (rd_L1 x227001 x10).length < 17592186044416 then (if x229001.length < 5864062014805 then (spec_AddAttack.l0 k x1 x2 x9 (wrap64 (x10 + 1)) x227000 x227001 x229000 (x229001 ++ [(y231 ++ (rd_L1 x227001 x10))])) else (none)) else (none))) else (if 0 < ((rd_L1 x227001 x10).length : Int) then (if (rd (rd_L1 x227001 x10) 0) > x1 then (if x229001.length < 5864062014805 then ((some (x229001 ++ [(([x1, x2] : List Int))] : List (List Int))).bind fun y244 => ((some (([] : List Int) : List Int)).bind fun y247 => (if y247.length + (rd_L1 x227001 x10).length < 17592186044416 then (if y244.length < 5864062014805 then (spec_AddAttack.l0 k x1 x2 true (wrap64 (x10 + 1)) x227000 x227001 x229000 (y244 ++ [(y247 ++ (rd_L1 x227001 x10))])) else (none)) else (none)))) else (none)) else (if (rd (rd_L1 x227001 x10) 0) = x1 then (if 1 < ((rd_L1 x227001 x10).length : Int) then (if (rd (rd_L1 x227001 x10) 1) > x2 then (if x229001.length < 5864062014805 then ((some (x229001 ++ [(([x1, x2] : List Int))] : List (List Int))).bind fun y261 => ((some (([] : List Int) : List Int)).bind fun y264 => (if y264.length + (rd_L1 x227001 x10).length < 17592186044416 then (if y261.length < 5864062014805 then (spec_AddAttack.l0 k x1 x2 true (wrap64 (x10 + 1)) x227000 x227001 x229000 (y261 ++ [(y264 ++ (rd_L1 x227001 x10))])) else (none)) else (none)))) else (none)) else ((some (([] : List Int) : List Int)).bind fun y273 => (if y273.length + (rd_L1 x227001 x10).length < 17592186044416 then (if x229001.length < 5864062014805 then (spec_AddAttack.l0 k x1 x2 x9 (wrap64 (x10 + 1)) x227000 x227001 x229000 (x229001 ++ [(y273 ++ (rd_L1 x227001 x10))])) else (none)) else (none)))) else (none)) else ((some (([] : List Int) : List Int)).bind fun y282 => (if y282.length + (rd_L1 x227001 x10).length < 17592186044416 then (if x229001.length < 5864062014805 then (spec_AddAttack.l0 k x1 x2 x9 (wrap64 (x10 + 1)) x227000 x227001 x229000 (x229001 ++ [(y282 ++ (rd_L1 x227001 x10))])) else (none)) else (none))))) else (none))) else (none)) else (none)) else (if x9 = true then (spec_AddAttack.j2 k x227000 x227001 x229000 x229001) else (if x229001.length < 5864062014805 then (spec_AddAttack.j2 k x227000 x227001 x229000 (x229001 ++ [(([x1, x2] : List Int))])) else (none)))
def spec_AddAttack.j2 : Nat → Int → List (List Int) → Int → List (List Int) → Option (Int × (List (List Int)) × Bool)
 | 0, _, _, _, _ => none
 | k + 1, x227000, x227001, x229000, x229001 => (spec_IsGraph.f k x227000 x227001).bind fun t297 => (if t297 = true then ((spec_IsGraph.f k x229000 x229001).bind fun t298 => (if t298 = true then (some (x229000, x229001, true)) else ((spec_l4Copy.f k x227000 x227001).bind fun bt299 => (some (bt299.1, bt299.2, false))))) else ((spec_l4Copy.f k x227000 x227001).bind fun bt303 => (some (bt303.1, bt303.2, false))))
end
def spec_AddAttack.f (k : Nat) (a0_0 : Int) (l0_1 : List (List Int)) (a1 : Int) (a2 : Int) : Option (Int × (List (List Int)) × Bool) := spec_AddAttack.l0 k a1 a2 false 0 a0_0 l0_1 a0_0 ([] : List (List Int))
theorem spec_AddAttack.mono_l : ∀ k, (∀ y0 y1 y2 y3 y4 y5 y6 y7, LeO (spec_AddAttack.l0 k y0 y1 y2 y3 y4 y5 y6 y7) (spec_AddAttack.l0 (k + 1) y0 y1 y2 y3 y4 y5 y6 y7)) ∧ (∀ y0 y1 y2 y3 y4 y5 y6 y7 y8, LeO (spec_AddAttack.j1 k y0 y1 y2 y3 y4 y5 y6 y7 y8) (spec_AddAttack.j1 (k + 1) y0 y1 y2 y3 y4 y5 y6 y7 y8)) ∧ (∀ y0 y1 y2 y3, LeO (spec_AddAttack.j2 k y0 y1 y2 y3) (spec_AddAttack.j2 (k + 1) y0 y1 y2 y3))
 | 0 => ⟨fun _ _ _ _ _ _ _ _ r h => by simp [spec_AddAttack.l0] at h, fun _ _ _ _ _ _ _ _ _ r h => by simp [spec_AddAttack.j1] at h, fun _ _ _ _ r h => by simp [spec_AddAttack.j2] at h⟩
 | k + 1 => by
  obtain ⟨ih0, ih1, ih2⟩ := spec_AddAttack.mono_l k
  refine ⟨?_, ?_, ?_⟩
  ·intro y0 y1 y2 y3 y4 y5 y6 y7
   unfold spec_AddAttack.l0
   repeat' first
   | (with_reducible exact ih0 _ _ _ _ _ _ _ _)
   | (with_reducible exact ih1 _ _ _ _ _ _ _ _ _)
   | (with_reducible exact ih2 _ _ _ _)
   | (with_reducible exact spec_IsGraph.mono _ _ _)
   | (with_reducible exact spec_l4Copy.mono _ _ _)
   | (with_reducible exact LeO.refl _)
   | (with_reducible exact ZE _)
   | (with_reducible refine ZH ?_ ?_)
   | (with_reducible refine ZD ?_ (fun _ => ?_))
   | exact ih0 _ _ _ _ _ _ _ _
   | exact ih1 _ _ _ _ _ _ _ _ _
   | exact ih2 _ _ _ _
   | exact spec_IsGraph.mono _ _ _
   | exact spec_l4Copy.mono _ _ _
   | exact ZE _
   | refine ZH ?_ ?_
   | refine ZD ?_ (fun _ => ?_)
  ·intro y0 y1 y2 y3 y4 y5 y6 y7 y8
   unfold spec_AddAttack.j1
   repeat' first
   | (with_reducible exact ih0 _ _ _ _ _ _ _ _)
   | (with_reducible exact ih1 _ _ _ _ _ _ _ _ _)
   | (with_reducible exact ih2 _ _ _ _)
   | (with_reducible exact spec_IsGraph.mono _ _ _)
   | (with_reducible exact spec_l4Copy.mono _ _ _)
   | (with_reducible exact LeO.refl _)
   | (with_reducible exact ZE _)
   | (with_reducible refine ZH ?_ ?_)
   | (with_reducible refine ZD ?_ (fun _ => ?_))
   | exact ih0 _ _ _ _ _ _ _ _
   | exact ih1 _ _ _ _ _ _ _ _ _
   | exact ih2 _ _ _ _
   | exact spec_IsGraph.mono _ _ _
   | exact spec_l4Copy.mono _ _ _
   | exact ZE _
   | refine ZH ?_ ?_
   | refine ZD ?_ (fun _ => ?_)
  ·intro y0 y1 y2 y3
   unfold spec_AddAttack.j2
   repeat' first
   | (with_reducible exact ih0 _ _ _ _ _ _ _ _)
   | (with_reducible exact ih1 _ _ _ _ _ _ _ _ _)
   | (with_reducible exact ih2 _ _ _ _)
   | (with_reducible exact spec_IsGraph.mono _ _ _)
   | (with_reducible exact spec_l4Copy.mono _ _ _)
   | (with_reducible exact LeO.refl _)
   | (with_reducible exact ZE _)
   | (with_reducible refine ZH ?_ ?_)
   | (with_reducible refine ZD ?_ (fun _ => ?_))
   | exact ih0 _ _ _ _ _ _ _ _
   | exact ih1 _ _ _ _ _ _ _ _ _
   | exact ih2 _ _ _ _
   | exact spec_IsGraph.mono _ _ _
   | exact spec_l4Copy.mono _ _ _
   | exact ZE _
   | refine ZH ?_ ?_
   | refine ZD ?_ (fun _ => ?_)
theorem spec_AddAttack.mono : ∀ a0 a1 a2 a3 k, LeO (spec_AddAttack.f k a0 a1 a2 a3) (spec_AddAttack.f (k + 1) a0 a1 a2 a3) := by
 intro a0 a1 a2 a3 k
 obtain ⟨ih0, ih1, ih2⟩ := spec_AddAttack.mono_l k
 unfold spec_AddAttack.f
 repeat' first
   | (with_reducible exact ih0 _ _ _ _ _ _ _ _)
   | (with_reducible exact ih1 _ _ _ _ _ _ _ _ _)
   | (with_reducible exact ih2 _ _ _ _)
   | (with_reducible exact spec_IsGraph.mono _ _ _)
   | (with_reducible exact spec_l4Copy.mono _ _ _)
   | (with_reducible exact LeO.refl _)
   | (with_reducible exact ZE _)
   | (with_reducible refine ZH ?_ ?_)
   | (with_reducible refine ZD ?_ (fun _ => ?_))
   | exact ih0 _ _ _ _ _ _ _ _
   | exact ih1 _ _ _ _ _ _ _ _ _
   | exact ih2 _ _ _ _
   | exact spec_IsGraph.mono _ _ _
   | exact spec_l4Copy.mono _ _ _
   | exact ZE _
   | refine ZH ?_ ?_
   | refine ZD ?_ (fun _ => ?_)
def spec_AddAttack.T10 : Bool × List (List Nat × List Nat) := (true, [([], []), ([0], [0]), ([], []), ([], []), ([2, 3], [2, 3]), ([4], [4]), ([1, 5, 4], [1, 5]), ([0, 1, 2, 3, 4, 5, 6], []), ([7, 6, 6, 0, 1, 2, 3, 4, 5, 6], [6, 7])])
def spec_AddAttack.B10 : List Nat := [0, 1, 0, 0, 12, 28, 63, 127, 255]
theorem spec_AddAttack.tab10 : rtab .any (opsOf Try.f102 10) = spec_AddAttack.T10 := by kernel_rfl
theorem spec_AddAttack.bits10 : waitsOk spec_AddAttack.T10.2 spec_AddAttack.B10 = true := by kernel_rfl
set_option maxHeartbeats 8000000 in
set_option maxRecDepth 100000 in
theorem spec_AddAttack.calls (k : Nat) (a0_0 : Int) (A0_1 : Option Addr) (c0_1 : Nat) (l0_1 : List (List Int)) (a1 : Int) (a2 : Int) (r1 : Int) (r2 : List (List Int)) (r3 : Bool) (w : World) (hr0_1 : Kd.C (Kd.slice 3 (Kd.int .i64)) w A0_1 l0_1.length l0_1) (hc0_1 : l0_1.length ≤ c0_1) (h : spec_AddAttack.f k a0_0 l0_1 a1 a2 = some (r1, r2, r3)) :
  Calls Try.prog 102 #[.agg #[.int .i64 a0_0, .slice A0_1 l0_1.length c0_1], .int .i64 a1, .int .i64 a2] w fun e w' => ∃ v1_ : Value, e = .returned (.tuple #[.agg #[.int .i64 r1, v1_], .bool r3]) ∧ Kd.S (Kd.slice 3 (Kd.int .i64)) 31 w' w.heap.size (fun _ => True) v1_ r2 ∧ Below w.heap.size w w' := by
 have hu27 := Try.underlying27
 have HR0_1 := Aside0.mk hr0_1
 have HC0_1 := Aside0.mk hc0_1
 clear hr0_1 hc0_1
 have HB := Aside0.mk (Below.refl w.heap.size w)
 have H : (spec_AddAttack.l0 k a1 a2 false 0 a0_0 l0_1 a0_0 ([] : List (List Int))) = some (r1, r2, r3) := h
 clear h
 have H' := Aside0.mk H
 clear H
 go_enter Try.func102, Try.ntmps102
 go_wp2_with (first | ((with_reducible refine gate_dst (N := 3) rfl ?_); refine box_event ?hg (N := 3) ?hd (cs := #[.int .i64 a0_0, .slice A0_1 l0_1.length c0_1]) (t := 27) ?hr ?_; (case hd => rfl); (case hg => rfl); (case hr => first | (go_simp; done) | (go_simp; rfl)); intro gb226 hg w4 hbox hb; have n0_ := Aside0.mk (Zu (by repeat (first | (with_reducible first | exact HB.out | apply Zj | apply Ze | apply Zi) | exact HB.out)) hb); have n1_ := Aside0.mk (hbox); have n2_ := Aside0.mk ((by rw [hg]; exact (Zs (by repeat (first | (with_reducible first | exact HB.out | apply Zj | apply Ze | apply Zi) | exact HB.out))) : w.heap.size ≤ gb226)); have n3_ := Aside0.mk ((by rw [hg]; exact (Zs (by repeat (first | (with_reducible first | exact HB.out | apply Zj | apply Ze | apply Zi) | exact HB.out))) : w.heap.size ≤ gb226)); clear HB; have HB := n0_; have BK226 := n1_; have GW226 := n2_; have GE226 := n3_; clear n0_ n1_ n2_ n3_; clear hb hbox hg) | ((with_reducible refine gate_dst (N := 6) rfl ?_); refine box_event ?hg (N := 6) ?hd (cs := #[.int .i64 0, .slice none 0 0]) (t := 27) ?hr ?_; (case hd => rfl); (case hg => rfl); (case hr => first | (go_simp; done) | (go_simp; rfl)); intro gb227 hg w5 hbox hb; have n0_ := Aside0.mk (Zp (g := gb226) (o := .cells #[.int .i64 a0_0, .slice A0_1 l0_1.length c0_1] 27 (0, 0)) (by (with_reducible repeat (first | refine Zg ?_ _ | refine Zh ?_ | refine Zf ?_ _)); exact BK226.out) hb); have n1_ := Aside0.mk (Zu (by repeat (first | (with_reducible first | exact HB.out | apply Zj | apply Ze | apply Zi | refine Zd ?_ GE226.out) | exact HB.out)) hb); have n2_ := Aside0.mk (hbox); have n3_ := Aside0.mk ((by rw [hg]; exact (Zs (by repeat (first | (with_reducible first | exact HB.out | apply Zj | apply Ze | apply Zi | refine Zd ?_ GE226.out) | exact HB.out))) : w.heap.size ≤ gb227)); have n4_ := Aside0.mk ((by rw [hg]; exact (Zs (by repeat (first | (with_reducible first | exact HB.out | apply Zj | apply Ze | apply Zi | refine Zd ?_ GE226.out) | exact HB.out))) : w.heap.size ≤ gb227)); have n5_ := Aside0.mk ((by rw [hg]; exact Nat.ne_of_lt (blk_lt (g := gb226) (o := .cells #[.int .i64 a0_0, .slice A0_1 l0_1.length c0_1] 27 (0, 0)) (by (with_reducible repeat (first | refine Zg ?_ _ | refine Zh ?_ | refine Zf ?_ _)); exact BK226.out)) : gb226 ≠ gb227)); have n6_ := Aside0.mk ((by rw [hg]; exact Nat.ne_of_gt (blk_lt (g := gb226) (o := .cells #[.int .i64 a0_0, .slice A0_1 l0_1.length c0_1] 27 (0, 0)) (by (with_reducible repeat (first | refine Zg ?_ _ | refine Zh ?_ | refine Zf ?_ _)); exact BK226.out)) : gb227 ≠ gb226)); clear BK226; clear HB; have BK226 := n0_; have HB := n1_; have BK227 := n2_; have GW227 := n3_; have GE227 := n4_; have NB226_227 := n5_; have NB227_226 := n6_; clear n0_ n1_ n2_ n3_ n4_ n5_ n6_; clear hb hbox hg; have hnb6 := NB226_227.out; have hnc6 := NB227_226.out; have hcz7_0 : w5.cell? ⟨gb226, 0, none⟩ = some (.int .i64 a0_0) := (Zk BK226.out 0).trans rfl; have hcz7_1 : w5.cell? ⟨gb226, 1, none⟩ = some (.slice A0_1 l0_1.length c0_1) := (Zk BK226.out 1).trans rfl; have hfz7_0 := Zl BK226.out 0; have hfz7_1 := Zl BK226.out 1) | ((with_reducible refine gate_dst (N := 8) rfl ?_); refine box_event ?hg (N := 8) ?hd (cs := #[.int .i64 0, .slice none 0 0]) (t := 27) ?hr ?_; (case hd => rfl); (case hg => rfl); (case hr => first | (go_simp; done) | (go_simp; rfl)); intro gb228 hg w8 hbox hb; have n0_ := Aside0.mk (Zp (g := gb226) (o := .cells #[.int .i64 a0_0, .slice A0_1 l0_1.length c0_1] 27 (0, 0)) (by (with_reducible repeat (first | refine Zg ?_ _ | refine Zh ?_ | refine Zf ?_ _)); exact BK226.out) hb); have n1_ := Aside0.mk (Zp (g := gb227) (o := .cells #[.int .i64 0, .slice none 0 0] 27 (0, 0)) (by (with_reducible repeat (first | refine Zg ?_ _ | refine Zh ?_ | refine Zf ?_ _)); exact BK227.out) hb); have n2_ := Aside0.mk (Zu (by repeat (first | (with_reducible first | exact HB.out | apply Zj | apply Ze | apply Zi | refine Zd ?_ GE226.out | refine Zd ?_ GE227.out) | exact HB.out)) hb); have n3_ := Aside0.mk (hbox); have n4_ := Aside0.mk ((by rw [hg]; exact (Zs (by repeat (first | (with_reducible first | exact HB.out | apply Zj | apply Ze | apply Zi | refine Zd ?_ GE226.out | refine Zd ?_ GE227.out) | exact HB.out))) : w.heap.size ≤ gb228)); have n5_ := Aside0.mk ((by rw [hg]; exact (Zs (by repeat (first | (with_reducible first | exact HB.out | apply Zj | apply Ze | apply Zi | refine Zd ?_ GE226.out | refine Zd ?_ GE227.out) | exact HB.out))) : w.heap.size ≤ gb228)); have n6_ := Aside0.mk ((by rw [hg]; exact Nat.ne_of_lt (blk_lt (g := gb226) (o := .cells #[.int .i64 a0_0, .slice A0_1 l0_1.length c0_1] 27 (0, 0)) (by (with_reducible repeat (first | refine Zg ?_ _ | refine Zh ?_ | refine Zf ?_ _)); exact BK226.out)) : gb226 ≠ gb228)); have n7_ := Aside0.mk ((by rw [hg]; exact Nat.ne_of_gt (blk_lt (g := gb226) (o := .cells #[.int .i64 a0_0, .slice A0_1 l0_1.length c0_1] 27 (0, 0)) (by (with_reducible repeat (first | refine Zg ?_ _ | refine Zh ?_ | refine Zf ?_ _)); exact BK226.out)) : gb228 ≠ gb226)); have n8_ := Aside0.mk ((by rw [hg]; exact Nat.ne_of_lt (blk_lt (g := gb227) (o := .cells #[.int .i64 0, .slice none 0 0] 27 (0, 0)) (by (with_reducible repeat (first | refine Zg ?_ _ | refine Zh ?_ | refine Zf ?_ _)); exact BK227.out)) : gb227 ≠ gb228)); have n9_ := Aside0.mk ((by rw [hg]; exact Nat.ne_of_gt (blk_lt (g := gb227) (o := .cells #[.int .i64 0, .slice none 0 0] 27 (0, 0)) (by (with_reducible repeat (first | refine Zg ?_ _ | refine Zh ?_ | refine Zf ?_ _)); exact BK227.out)) : gb228 ≠ gb227)); clear BK226; clear BK227; clear HB; have BK226 := n0_; have BK227 := n1_; have HB := n2_; have BK228 := n3_; have GW228 := n4_; have GE228 := n5_; have NB226_228 := n6_; have NB228_226 := n7_; have NB227_228 := n8_; have NB228_227 := n9_; clear n0_ n1_ n2_ n3_ n4_ n5_ n6_ n7_ n8_ n9_; clear hb hbox hg; have hnb9 := NB228_226.out; have hnc9 := NB226_228.out; have hnb10 := NB228_227.out; have hnc10 := NB227_228.out; have hcz11_0 : w8.cell? ⟨gb228, 0, none⟩ = some (.int .i64 0) := (Zk BK228.out 0).trans rfl; have hcz11_1 : w8.cell? ⟨gb228, 1, none⟩ = some (.slice none 0 0) := (Zk BK228.out 1).trans rfl; have hfz11_0 := Zl BK228.out 0; have hfz11_1 := Zl BK228.out 1))
 go_loopg [9, 10] k (fun kq v9 v10 w' => ∃ (x9_1 : Bool) (x10_1 : Int) (x229001_1 : List (List Int)) (u229001 : Value), v9 = .bool x9_1 ∧ v10 = .int .i64 x10_1 ∧ Aside0 (spec_AddAttack.l0 kq a1 a2 x9_1 x10_1 a0_0 l0_1 a0_0 x229001_1 = some (r1, r2, r3)) ∧ Aside0 (kq ≤ k) ∧ Aside0 (Kd.S (Kd.slice 3 (Kd.int .i64)) 31 w' w.heap.size (fun _ => True) u229001 x229001_1) ∧ Aside0 (w'.heap[gb226]? = some (.cells #[.int .i64 a0_0, (.slice A0_1 l0_1.length c0_1)] 27 (0, 0))) ∧ Aside0 (w'.heap[gb227]? = some (.cells #[.int .i64 0, (.slice none 0 0)] 27 (0, 0))) ∧ Aside0 (w'.heap[gb228]? = some (.cells #[.int .i64 a0_0, u229001] 27 (0, 0))) ∧ Aside0 (Below w.heap.size w w'))
 case atStart => exact ⟨(false), (0), (([] : List (List Int))), (.slice none 0 0), (by first | rfl | (simp; done) | (simp [*]; done)), (by first | rfl | (simp; done) | (simp [*]; done)), H', ⟨Nat.le_refl _⟩, ⟨by first | exact Kd.S_nil _ _ _ _ _ | exact Kd.N_nil _ _ _ _ _ | exact Kd.V_nil _ _ _ _ _ | exact Kd.Q_nil _ _ _ _ _ | exact Kd.R_nil _ _ _ _ _⟩, ⟨by (with_reducible repeat (first | refine Zg ?_ _ | refine Zh ?_ | refine Zf ?_ _)); refine ZP ?_ NB226_228.out _; (with_reducible repeat (first | refine Zg ?_ _ | refine Zh ?_ | refine Zf ?_ _)); refine ZP ?_ NB226_228.out _; (with_reducible repeat (first | refine Zg ?_ _ | refine Zh ?_ | refine Zf ?_ _)); exact BK226.out⟩, ⟨by (with_reducible repeat (first | refine Zg ?_ _ | refine Zh ?_ | refine Zf ?_ _)); refine ZP ?_ NB227_228.out _; (with_reducible repeat (first | refine Zg ?_ _ | refine Zh ?_ | refine Zf ?_ _)); refine ZP ?_ NB227_228.out _; (with_reducible repeat (first | refine Zg ?_ _ | refine Zh ?_ | refine Zf ?_ _)); exact BK227.out⟩, ⟨by (with_reducible repeat (first | refine Zg ?_ _ | refine Zh ?_ | refine Zf ?_ _)); refine blk_put (cs := #[.int .i64 a0_0, .slice none 0 0]) ?_ 1 _ rfl; (with_reducible repeat (first | refine Zg ?_ _ | refine Zh ?_ | refine Zf ?_ _)); refine blk_put (cs := #[.int .i64 0, .slice none 0 0]) ?_ 0 _ rfl; (with_reducible repeat (first | refine Zg ?_ _ | refine Zh ?_ | refine Zf ?_ _)); exact BK228.out⟩, ⟨by repeat (first | (with_reducible first | exact HB.out | apply Zj | apply Ze | apply Zi | refine Zd ?_ GE226.out | refine Zd ?_ GE227.out | refine Zd ?_ GE228.out) | exact HB.out)⟩⟩
 case round =>
  clear H'
  try clear c1
  try clear p2
  try clear c6
  try clear c9
  try clear c10
  try clear hcz11_0
  try clear hcz11_1
  try clear hcz7_0
  try clear hcz7_1
  try clear hfz11_0
  try clear hfz11_1
  try clear hfz7_0
  try clear hfz7_1
  obtain ⟨x9_1, x10_1, x229001_1, u229001, rfl, rfl, HA, HK1, HO_229001, BK226, BK227, BK228, HB⟩ := hrel
  cases gk with
  | zero => exact absurd HA.out (by simp [spec_AddAttack.l0])
  | succ k1 =>
   have H := HA.out
   clear HA
   simp only [spec_AddAttack.l0] at H
   have HC12 := Aside0.mk H
   clear H
   go_upto_region 4 with (fail)
   go_cut [23] (fun v23 wc => ∃ (kq : Nat) (x23_11 : Bool), v23 = .bool x23_11 ∧ Aside0 (spec_AddAttack.j1 kq a1 a2 x9_1 x10_1 x23_11 a0_0 l0_1 a0_0 x229001_1 = some (r1, r2, r3)) ∧ Aside0 (kq ≤ k1) ∧ Aside0 (Kd.S (Kd.slice 3 (Kd.int .i64)) 31 wc w.heap.size (fun _ => True) u229001 x229001_1) ∧ Aside0 (wc.heap[gb226]? = some (.cells #[.int .i64 a0_0, (.slice A0_1 l0_1.length c0_1)] 27 (0, 0))) ∧ Aside0 (wc.heap[gb227]? = some (.cells #[.int .i64 0, (.slice none 0 0)] 27 (0, 0))) ∧ Aside0 (wc.heap[gb228]? = some (.cells #[.int .i64 a0_0, u229001] 27 (0, 0))) ∧ Aside0 (Below w.heap.size w wc))
   case first =>
    have H := HC12.out
    clear HC12
    by_cases c13 : x10_1 < (l0_1.length : Int)
    ·rw [if_pos c13] at H
     have c13b0 : decide (x10_1 < (l0_1.length : Int)) = true := decide_eq_true c13
     clear c13
     (first | rw [c13b0] | (simp only [Zq, Zr]; rw [c13b0]) | skip)
     replace H := Option.bind_eq_some_iff.mp H
     obtain ⟨t229, A140, H⟩ := H
     replace H : (spec_AddAttack.j1 k1 a1 a2 x9_1 x10_1 t229 a0_0 l0_1 a0_0 x229001_1) = some (r1, r2, r3) := H
     have A14 := Aside0.mk A140
     clear A140
     have H' := Aside0.mk H
     clear H
     have hnb15 := NB226_227.out
     have hnc15 := NB227_226.out
     have hnb16 := NB226_228.out
     have hnc16 := NB228_226.out
     have hcz17_0 : wr.cell? ⟨gb226, 0, none⟩ = some (.int .i64 a0_0) := (Zk BK226.out 0).trans rfl
     have hcz17_1 : wr.cell? ⟨gb226, 1, none⟩ = some (.slice A0_1 l0_1.length c0_1) := (Zk BK226.out 1).trans rfl
     have hfz17_0 := Zl BK226.out 0
     have hfz17_1 := Zl BK226.out 1
     go_wp2_with (first | (go_at_call 57; (with_reducible refine (spec_IsGraph.calls k1 a0_0 _ _ l0_1 t229 _ ?side1 ?side2 A14.out).mono ?_); (case side1 => repeat (first | exact (ZG HR0_1.out HB.out) | (with_reducible refine Zw ?_ _) | (with_reducible refine Zv ?_ _) | (with_reducible refine Zz ?_))); (case side2 => exact HC0_1.out); rintro e w18 ⟨rfl, hb⟩; have n0_ := Aside0.mk (ZC (by (with_reducible repeat (first | apply Zn | apply Zm | apply Zo)); exact HO_229001.out) hb); have n1_ := Aside0.mk (Zp (g := gb226) (o := .cells #[.int .i64 a0_0, .slice A0_1 l0_1.length c0_1] 27 (0, 0)) (by (with_reducible repeat (first | refine Zg ?_ _ | refine Zh ?_ | refine Zf ?_ _)); exact BK226.out) hb); have n2_ := Aside0.mk (Zp (g := gb227) (o := .cells #[.int .i64 0, .slice none 0 0] 27 (0, 0)) (by (with_reducible repeat (first | refine Zg ?_ _ | refine Zh ?_ | refine Zf ?_ _)); exact BK227.out) hb); have n3_ := Aside0.mk (Zp (g := gb228) (o := .cells #[.int .i64 a0_0, u229001] 27 (0, 0)) (by (with_reducible repeat (first | refine Zg ?_ _ | refine Zh ?_ | refine Zf ?_ _)); exact BK228.out) hb); have n4_ := Aside0.mk (Zu (by repeat (first | (with_reducible first | exact HB.out | apply Zj | apply Ze | apply Zi | refine Zd ?_ GE226.out | refine Zd ?_ GE227.out | refine Zd ?_ GE228.out) | exact HB.out)) hb); clear HO_229001; clear BK226; clear BK227; clear BK228; clear HB; have HO_229001 := n0_; have BK226 := n1_; have BK227 := n2_; have BK228 := n3_; have HB := n4_; clear n0_ n1_ n2_ n3_ n4_; (try clear hb); (try clear hb2); (try clear hk); (try clear hi)))
     go_meet
     case rel => exact ⟨_, (t229), (by first | rfl | (simp; done) | (simp [*]; done)), H', ⟨by have := HK1.out; first | omega | exact Nat.le_refl _⟩, ⟨by (with_reducible repeat (first | apply Zn | apply Zm | apply Zo)); exact HO_229001.out⟩, ⟨by (with_reducible repeat (first | refine Zg ?_ _ | refine Zh ?_ | refine Zf ?_ _)); exact BK226.out⟩, ⟨by (with_reducible repeat (first | refine Zg ?_ _ | refine Zh ?_ | refine Zf ?_ _)); exact BK227.out⟩, ⟨by (with_reducible repeat (first | refine Zg ?_ _ | refine Zh ?_ | refine Zf ?_ _)); exact BK228.out⟩, ⟨by repeat (first | (with_reducible first | exact HB.out | apply Zj | apply Ze | apply Zi | refine Zd ?_ GE226.out | refine Zd ?_ GE227.out | refine Zd ?_ GE228.out) | exact HB.out)⟩⟩
    ·rw [if_neg c13] at H
     have c13b0 : decide (x10_1 < (l0_1.length : Int)) = false := decide_eq_false c13
     clear c13
     (first | rw [c13b0] | (simp only [Zq, Zr]; rw [c13b0]) | skip)
     have H' := Aside0.mk H
     clear H
     have hnb19 := NB226_227.out
     have hnc19 := NB227_226.out
     have hnb20 := NB226_228.out
     have hnc20 := NB228_226.out
     have hcz21_0 : wr.cell? ⟨gb226, 0, none⟩ = some (.int .i64 a0_0) := (Zk BK226.out 0).trans rfl
     have hcz21_1 : wr.cell? ⟨gb226, 1, none⟩ = some (.slice A0_1 l0_1.length c0_1) := (Zk BK226.out 1).trans rfl
     have hfz21_0 := Zl BK226.out 0
     have hfz21_1 := Zl BK226.out 1
     go_wp2
     go_meet
     case rel => exact ⟨_, (false), (by first | rfl | (simp; done) | (simp [*]; done)), H', ⟨by have := HK1.out; first | omega | exact Nat.le_refl _⟩, ⟨by (with_reducible repeat (first | apply Zn | apply Zm | apply Zo)); exact HO_229001.out⟩, ⟨by (with_reducible repeat (first | refine Zg ?_ _ | refine Zh ?_ | refine Zf ?_ _)); exact BK226.out⟩, ⟨by (with_reducible repeat (first | refine Zg ?_ _ | refine Zh ?_ | refine Zf ?_ _)); exact BK227.out⟩, ⟨by (with_reducible repeat (first | refine Zg ?_ _ | refine Zh ?_ | refine Zf ?_ _)); exact BK228.out⟩, ⟨by repeat (first | (with_reducible first | exact HB.out | apply Zj | apply Ze | apply Zi | refine Zd ?_ GE226.out | refine Zd ?_ GE227.out | refine Zd ?_ GE228.out) | exact HB.out)⟩⟩
   case rest =>
    clear HC12
    try clear c1
    try clear c2
    try clear p2
    try clear c6
    try clear c9
    try clear c10
    try clear c13
    try clear c13b0
    try clear c15
    try clear c16
    try clear c19
    try clear c20
    try clear hcz11_0
    try clear hcz11_1
    try clear hcz17_0
    try clear hcz17_1
    try clear hcz21_0
    try clear hcz21_1
    try clear hcz7_0
    try clear hcz7_1
    try clear hfz11_0
    try clear hfz11_1
    try clear hfz17_0
    try clear hfz17_1
    try clear hfz21_0
    try clear hfz21_1
    try clear hfz7_0
    try clear hfz7_1
    try clear p2
    obtain ⟨kq, x23_11, rfl, HA, HJ11, HO_229001, BK226, BK227, BK228, HB⟩ := hcut
    cases kq with
    | zero => exact absurd HA.out (by simp [spec_AddAttack.j1])
    | succ kj11 =>
     have H := HA.out
     clear HA
     simp only [spec_AddAttack.j1] at H
     by_cases c22 : x23_11 = true
     ·subst c22
      have H1 : (if 0 ≤ x10_1 then (if x10_1 < (l0_1.length : Int) then (if x9_1 = true then ((some (([] : List Int) : List Int)).bind fun y231 => (if y231.length + (rd_L1 l0_1 x10_1).length < 17592186044416 then (if x229001_1.length < 5864062014805 then (spec_AddAttack.l0 kj11 a1 a2 x9_1 (wrap64 (x10_1 + 1)) a0_0 l0_1 a0_0 (x229001_1 ++ [(y231 ++ (rd_L1 l0_1 x10_1))])) else (none)) else (none))) else (if 0 < ((rd_L1 l0_1 x10_1).length : Int) then (if (rd (rd_L1 l0_1 x10_1) 0) > a1 then (if x229001_1.length < 5864062014805 then ((some (x229001_1 ++ [(([a1, a2] : List Int))] : List (List Int))).bind fun y244 => ((some (([] : List Int) : List Int)).bind fun y247 => (if y247.length + (rd_L1 l0_1 x10_1).length < 17592186044416 then (if y244.length < 5864062014805 then (spec_AddAttack.l0 kj11 a1 a2 true (wrap64 (x10_1 + 1)) a0_0 l0_1 a0_0 (y244 ++ [(y247 ++ (rd_L1 l0_1 x10_1))])) else (none)) else (none)))) else (none)) else (if (rd (rd_L1 l0_1 x10_1) 0) = a1 then (if 1 < ((rd_L1 l0_1 x10_1).length : Int) then (if (rd (rd_L1 l0_1 x10_1) 1) > a2 then (if x229001_1.length < 5864062014805 then ((some (x229001_1 ++ [(([a1, a2] : List Int))] : List (List Int))).bind fun y261 => ((some (([] : List Int) : List Int)).bind fun y264 => (if y264.length + (rd_L1 l0_1 x10_1).length < 17592186044416 then (if y261.length < 5864062014805 then (spec_AddAttack.l0 kj11 a1 a2 true (wrap64 (x10_1 + 1)) a0_0 l0_1 a0_0 (y261 ++ [(y264 ++ (rd_L1 l0_1 x10_1))])) else (none)) else (none)))) else (none)) else ((some (([] : List Int) : List Int)).bind fun y273 => (if y273.length + (rd_L1 l0_1 x10_1).length < 17592186044416 then (if x229001_1.length < 5864062014805 then (spec_AddAttack.l0 kj11 a1 a2 x9_1 (wrap64 (x10_1 + 1)) a0_0 l0_1 a0_0 (x229001_1 ++ [(y273 ++ (rd_L1 l0_1 x10_1))])) else (none)) else (none)))) else (none)) else ((some (([] : List Int) : List Int)).bind fun y282 => (if y282.length + (rd_L1 l0_1 x10_1).length < 17592186044416 then (if x229001_1.length < 5864062014805 then (spec_AddAttack.l0 kj11 a1 a2 x9_1 (wrap64 (x10_1 + 1)) a0_0 l0_1 a0_0 (x229001_1 ++ [(y282 ++ (rd_L1 l0_1 x10_1))])) else (none)) else (none))))) else (none))) else (none)) else (none)) = some (r1, r2, r3) := by rw [if_pos rfl] at H; exact H
      clear H
      have H := H1
      clear H1
      by_cases c23 : 0 ≤ x10_1
      ·rw [if_pos c23] at H
       have c23b0 : decide (0 ≤ x10_1) = true := decide_eq_true c23
       clear c23
       by_cases c24 : x10_1 < (l0_1.length : Int)
       ·rw [if_pos c24] at H
        have c24b0 : decide (x10_1 < (l0_1.length : Int)) = true := decide_eq_true c24
        clear c24
        by_cases c25 : x9_1 = true
        ·subst c25
         have H1 : ((some (([] : List Int) : List Int)).bind fun y231 => (if y231.length + (rd_L1 l0_1 x10_1).length < 17592186044416 then (if x229001_1.length < 5864062014805 then (spec_AddAttack.l0 kj11 a1 a2 true (wrap64 (x10_1 + 1)) a0_0 l0_1 a0_0 (x229001_1 ++ [(y231 ++ (rd_L1 l0_1 x10_1))])) else (none)) else (none))) = some (r1, r2, r3) := by rw [if_pos rfl] at H; exact H
         clear H
         have H := H1
         clear H1
         obtain ⟨y231, hy231⟩ : ∃ y_ : List Int, y_ = (([] : List Int)) := ⟨_, rfl⟩
         replace H : (if y231.length + (rd_L1 l0_1 x10_1).length < 17592186044416 then (if x229001_1.length < 5864062014805 then (spec_AddAttack.l0 kj11 a1 a2 true (wrap64 (x10_1 + 1)) a0_0 l0_1 a0_0 (x229001_1 ++ [(y231 ++ (rd_L1 l0_1 x10_1))])) else (none)) else (none)) = some (r1, r2, r3) := by first | (rw [hy231]; with_reducible exact H) | (have H2_ := (Option.bind_some _ _).symm.trans H; rw [hy231]; with_reducible exact H2_) | (have H2_ := (Option.bind_some _ _).symm.trans H; with_reducible exact H2_) | with_reducible exact H | (rw [hy231]; exact H) | exact H
         have Ny231 := Aside0.mk hy231
         clear hy231
         by_cases c26 : y231.length + (rd_L1 l0_1 x10_1).length < 17592186044416
         ·rw [if_pos c26] at H
          have LMc26 := Aside0.mk c26
          clear c26
          obtain ⟨y234, hy234⟩ : ∃ y_ : List Int, y_ = (y231 ++ (rd_L1 l0_1 x10_1)) := ⟨_, rfl⟩
          replace H : (if x229001_1.length < 5864062014805 then (spec_AddAttack.l0 kj11 a1 a2 true (wrap64 (x10_1 + 1)) a0_0 l0_1 a0_0 (x229001_1 ++ [y234])) else (none)) = some (r1, r2, r3) := by first | (rw [hy234]; with_reducible exact H) | (have H2_ := (Option.bind_some _ _).symm.trans H; rw [hy234]; with_reducible exact H2_) | (have H2_ := (Option.bind_some _ _).symm.trans H; with_reducible exact H2_) | with_reducible exact H | (rw [hy234]; exact H) | exact H
          have Ny234 := Aside0.mk hy234
          clear hy234
          by_cases c27 : x229001_1.length < 5864062014805
          ·rw [if_pos c27] at H
           have LMc27 := Aside0.mk c27
           clear c27
           obtain ⟨y237, hy237⟩ : ∃ y_ : List (List Int), y_ = (x229001_1 ++ [y234]) := ⟨_, rfl⟩
           replace H : (spec_AddAttack.l0 kj11 a1 a2 true (wrap64 (x10_1 + 1)) a0_0 l0_1 a0_0 y237) = some (r1, r2, r3) := by first | (rw [hy237]; with_reducible exact H) | (have H2_ := (Option.bind_some _ _).symm.trans H; rw [hy237]; with_reducible exact H2_) | (have H2_ := (Option.bind_some _ _).symm.trans H; with_reducible exact H2_) | with_reducible exact H | (rw [hy237]; exact H) | exact H
           have Ny237 := Aside0.mk hy237
           clear hy237
           have H' := Aside0.mk H
           clear H
           have hnb28 := NB226_227.out
           have hnc28 := NB227_226.out
           have hnb29 := NB226_228.out
           have hnc29 := NB228_226.out
           have hcz30_0 : wc.cell? ⟨gb226, 0, none⟩ = some (.int .i64 a0_0) := (Zk BK226.out 0).trans rfl
           have hcz30_1 : wc.cell? ⟨gb226, 1, none⟩ = some (.slice A0_1 l0_1.length c0_1) := (Zk BK226.out 1).trans rfl
           have hfz30_0 := Zl BK226.out 0
           have hfz30_1 := Zl BK226.out 1
           have p230 : 0 ≤ (x10_1 : Int) := of_decide_eq_true (by first | (with_reducible assumption) | assumption)
           have q230 : x10_1 < (l0_1.length : Int) := of_decide_eq_true (by first | (with_reducible assumption) | assumption)
           obtain ⟨ad230, A230_0, c230_0, e230, hx230_0, hl230_0, hi230_0⟩ := at_L1 HR0_1.out x10_1 p230 q230
           cases e230
           replace hx230_0 := (HB.out.cell (World.block_lt_of_cell? w _ hx230_0)).trans hx230_0
           have HR230_0 := Aside0.mk hi230_0
           have HC230_0 := Aside0.mk hl230_0
           clear hi230_0 hl230_0
           replace p230 := eq_true p230
           replace q230 := eq_true q230
           try go_wp2
           have n0_ := Aside0.mk (Zo HO_229001.out)
           have n1_ := Aside0.mk (Zh BK226.out)
           have n2_ := Aside0.mk (Zh BK227.out)
           have n3_ := Aside0.mk (Zh BK228.out)
           have n4_ := Aside0.mk (Zi HB.out)
           clear HO_229001
           clear BK226
           clear BK227
           clear BK228
           clear HB
           have HO_229001 := n0_
           have BK226 := n1_
           have BK227 := n2_
           have BK228 := n3_
           have HB := n4_
           clear n0_ n1_ n2_ n3_ n4_
           refine start_ (n := 9) (S := fun w' => w'.cell? ⟨gb228, 0, none⟩ = some (.int .i64 a0_0) ∧ w'.cell? ⟨gb228, 1, none⟩ = some (u229001)) (ds := [8]) #[O,O,O,O,O,O,O,O,O] (by kernel_rfl) rfl rfl ⟨(Zk BK228.out 0).trans rfl, (Zk BK228.out 1).trans rfl⟩ (fun hHeld => ?_); refine with_tabW spec_AddAttack.tab10 spec_AddAttack.bits10 (fun HT_ HW_ => ?_)
           generalize wc.drew = w31 at HO_229001 BK226 BK227 BK228 HB hHeld ⊢
           refine Zx (i := 0) (N := some 62) (v := ?_) (a' := ?_) #[Y,O,O,O,O,O,O,O,O] rfl rfl (Zt HT_.out (by kernel_rfl)) (fun _ _ _ h => h) (Or.inl ⟨by rfl, ?_⟩) ?_ ?_
           rotate_left
           ·intro w'
            go_simp
            with_reducible rfl
           rotate_left
           ·simp only [Act.put, Za, Zb, Zc, Zq, Zr]
            rfl
           refine Zx (i := 3) (N := some 65) (v := ?_) (a' := ?_) #[Y,O,O,Y,O,O,O,O,O] rfl rfl (Zt HT_.out (by kernel_rfl)) (fun _ _ _ h => h) (Or.inl ⟨by rfl, ?_⟩) ?_ ?_
           rotate_left
           ·intro w'
            go_simp
            with_reducible rfl
           rotate_left
           ·simp only [Act.put, Za, Zb, Zc, Zq, Zr]
            rfl
           refine take_ (i := 1) (N := some 63) (v := ?_) (a' := ?_) #[Y,Y,O,Y,O,O,O,O,O] rfl rfl (take_ofW HT_.out HW_.out (by kernel_rfl)) (fun _ _ _ h => h) (Or.inl ⟨by rfl, ?_⟩) hHeld ?_ ?_
           rotate_left
           ·rintro w' ⟨s0, s1⟩
            go_simp
            with_reducible rfl
           rotate_left
           ·simp only [Act.put, Za, Zb, Zc, Zq, Zr]
            rfl
           refine one_ (i := 2) (N := some 64) #[Y,Y,Y,Y,O,O,O,O,O] rfl rfl (one_of HT_.out (by kernel_rfl)) (by decide) (fun K hK => ?_)
           refine Kd.R_lit_step (Kd.int .i64) _ 3 ?hg (N := 64) ?hd (xs := ([] : List Int)) (inner := []) (ok := fun _ => True) (okp := fun _ => True) ?hr ?hp (fun _ hk => hk) trivial (Below.refl _ _) (Nat.le_refl _) (by simp) ?_; (case hd => rfl); (case hg => rfl); (case hr => first | (go_simp; done) | (go_simp; rfl)); (case hp => exact (Reps.none _ _))
           intro v232 w32 ho33 hb hg_ hnew_
           clear hg_ hnew_
           (first | rw [← Ny231.out] at ho33 | (simp only [Int.reduceToNat] at ho33; rw [← Ny231.out] at ho33))
           have n0_ := Aside0.mk (ZK (by (with_reducible repeat (first | apply Zn | apply Zm | apply Zo)); exact HO_229001.out) (Kd.R_base ho33) hb)
           have n1_ := Aside0.mk (Kd.R_lower ho33 (Zs (by repeat (first | (with_reducible first | exact HB.out | apply Zj | apply Ze | apply Zi | refine Zd ?_ GE226.out | refine Zd ?_ GE227.out | refine Zd ?_ GE228.out) | exact HB.out))))
           have n2_ := Aside0.mk (Zp (g := gb226) (o := .cells #[.int .i64 a0_0, .slice (some ad230) l0_1.length c0_1] 27 (0, 0)) (by (with_reducible repeat (first | refine Zg ?_ _ | refine Zh ?_ | refine Zf ?_ _)); exact BK226.out) hb)
           have n3_ := Aside0.mk (Zp (g := gb227) (o := .cells #[.int .i64 0, .slice none 0 0] 27 (0, 0)) (by (with_reducible repeat (first | refine Zg ?_ _ | refine Zh ?_ | refine Zf ?_ _)); exact BK227.out) hb)
           have n4_ := Aside0.mk (Zp (g := gb228) (o := .cells #[.int .i64 a0_0, u229001] 27 (0, 0)) (by (with_reducible repeat (first | refine Zg ?_ _ | refine Zh ?_ | refine Zf ?_ _)); exact BK228.out) hb)
           have n5_ := Aside0.mk (Zu (by repeat (first | (with_reducible first | exact HB.out | apply Zj | apply Ze | apply Zi | refine Zd ?_ GE226.out | refine Zd ?_ GE227.out | refine Zd ?_ GE228.out) | exact HB.out)) hb)
           clear HO_229001
           clear BK226
           clear BK227
           clear BK228
           clear HB
           have HO_229001 := n0_
           have HO233 := n1_
           have BK226 := n2_
           have BK227 := n3_
           have BK228 := n4_
           have HB := n5_
           clear n0_ n1_ n2_ n3_ n4_ n5_
           clear hb ho33
           refine hK.out _ _ ⟨(Zk BK228.out 0).trans rfl, (Zk BK228.out 1).trans rfl⟩ (fun hHeld => ?_)
           clear hK K
           refine norm_ (a' := ?_) ?_ ?_
           rotate_left
           ·show Act.put _ (some 64) _ = _
            simp only [Act.put, Za, Zb, Zc, Zq, Zr]
            rfl
           refine one_ (i := 4) (N := some 66) #[Y,Y,Y,Y,Y,O,O,O,O] rfl rfl (one_of HT_.out (by kernel_rfl)) (by decide) (fun K hK => ?_)
           refine Kd.R_append_rows_step (Kd.int .i64) (w0 := w) w.heap.size (by rfl) (.tmp 64) (.tmp 65) 31 3 (.int .i64 0) 8 rfl Try.underlying31 info3 rfl (by decide) (by omega) v232 y231 (rd_L1 l0_1 x10_1) _ _ _ (fun _ => True) (fun _ => False) rfl rfl ?aO ?aR (fun _ _ h => h) (fun _ h => h.elim) ?aF ?aB ?aS ?aL ?_
           (case aR => repeat (first | exact (ZG HR230_0.out HB.out) | (with_reducible refine Zw ?_ _) | (with_reducible refine Zv ?_ _) | (with_reducible refine Zz ?_)))
           (case aB => exact (by repeat (first | (with_reducible first | exact HB.out | apply Zj | apply Ze | apply Zi | refine Zd ?_ GE226.out | refine Zd ?_ GE227.out | refine Zd ?_ GE228.out) | exact HB.out)))
           (case aF => exact (fun _ _ => trivial))
           (case aO => exact (by (with_reducible repeat (first | apply ZO | apply ZN | apply ZQ)); exact HO233.out))
           (case aS => exact (Zs (by repeat (first | (with_reducible first | exact HB.out | apply Zj | apply Ze | apply Zi | refine Zd ?_ GE226.out | refine Zd ?_ GE227.out | refine Zd ?_ GE228.out) | exact HB.out))))
           (case aL => have := LMc26.out; omega)
           intro v235 w34 ho hb hg hat
           rw [← Ny234.out] at ho
           have n0_ := Aside0.mk (Kd.S_after (ok := (fun _ => True)) (by (with_reducible repeat (first | apply Zn | apply Zm | apply Zo)); exact HO_229001.out) hg hat)
           have n1_ := Aside0.mk (ZS (g := gb226) (o := .cells #[.int .i64 a0_0, .slice (some ad230) l0_1.length c0_1] 27 (0, 0)) (by (with_reducible repeat (first | refine Zg ?_ _ | refine Zh ?_ | refine Zf ?_ _)); exact BK226.out) hg (Kd.R_ne HO233.out BK226.out (by decide)))
           have n2_ := Aside0.mk (ZS (g := gb227) (o := .cells #[.int .i64 0, .slice none 0 0] 27 (0, 0)) (by (with_reducible repeat (first | refine Zg ?_ _ | refine Zh ?_ | refine Zf ?_ _)); exact BK227.out) hg (Kd.R_ne HO233.out BK227.out (by decide)))
           have n3_ := Aside0.mk (ZS (g := gb228) (o := .cells #[.int .i64 a0_0, u229001] 27 (0, 0)) (by (with_reducible repeat (first | refine Zg ?_ _ | refine Zh ?_ | refine Zf ?_ _)); exact BK228.out) hg (Kd.R_ne HO233.out BK228.out (by decide)))
           have n4_ := Aside0.mk (hb)
           have n5_ := Aside0.mk (ho)
           clear HO_229001
           clear BK226
           clear BK227
           clear BK228
           clear HB
           clear HO233
           have HO_229001 := n0_
           have BK226 := n1_
           have BK227 := n2_
           have BK228 := n3_
           have HB := n4_
           have HO236 := n5_
           clear n0_ n1_ n2_ n3_ n4_ n5_
           clear ho hb hg hat
           obtain ⟨Ao36, co36, eo36⟩ := Kd.R_slice HO236.out
           (first | subst eo36 | (injection eo36 with f1_ f2_ f3_; have f4_ := f1_.symm; have f5_ := f3_.symm; clear f1_ f2_ f3_; subst f4_; subst f5_))
           refine hK.out _ _ ⟨(Zk BK228.out 0).trans rfl, (Zk BK228.out 1).trans rfl⟩ (fun hHeld => ?_)
           clear hK K
           refine norm_ (a' := ?_) ?_ ?_
           rotate_left
           ·show Act.put _ (some 66) _ = _
            simp only [Act.put, Za, Zb, Zc, Zq, Zr]
            rfl
           refine one_ (i := 5) (N := some 67) #[Y,Y,Y,Y,Y,Y,O,O,O] rfl rfl (one_of HT_.out (by kernel_rfl)) (by decide) (fun K hK => ?_)
           refine value_ (w1 := ?_) (v := ?_) (by rfl) rfl ?_ ?_
           rotate_left 2
           ·go_simp
            constructor
            ·rfl
            ·rfl
           refine hK.out _ _ ⟨(Zk (Zf BK228.out _) 0).trans rfl, (Zk (Zf BK228.out _) 1).trans rfl⟩ (fun hHeld => ?_)
           clear hK K
           refine norm_ (a' := ?_) ?_ ?_
           rotate_left
           ·show Act.put _ (some 67) _ = _
            simp only [Act.put, Za, Zb, Zc, Zq, Zr]
            rfl
           refine one_ (i := 6) (N := some 68) #[Y,Y,Y,Y,Y,Y,Y,O,O] rfl rfl (one_of HT_.out (by kernel_rfl)) (by decide) (fun K hK => ?_)
           refine Kd.S_append_step (Kd.slice 3 (Kd.int .i64)) (w0 := w) w.heap.size (by rfl) (.tmp 63) (.tmp 67) 22 31 (.slice none 0 0) 24 rfl Try.underlying22 info31 rfl (by decide) (by omega) u229001 x229001_1 y234 [.slice Ao36 y234.length co36] (fun _ => True) (fun k_ => some k_ = (.slice Ao36 y234.length co36 : Value).ownBlock) rfl rfl ?aP (fun k_ hk_ => ((ZR (ok' := fun k_ => ((fun _ => True)) k_ ∧ some k_ ≠ (u229001 : Value).ownBlock) (Kd.R_apart' (HO236.out) (Kd.S_typed HO_229001.out) (by decide)) (fun k_ hk => ⟨trivial, hk.2⟩))).1 k_ hk_.symm) ?aF ?aO ?aB ?aS ?aL ?_
           (case aP => exact Kd.M_row (ZR (Kd.R_tight rfl (ZR (ok' := fun k_ => ((fun _ => True)) k_ ∧ some k_ ≠ (u229001 : Value).ownBlock) (Kd.R_apart' (HO236.out) (Kd.S_typed HO_229001.out) (by decide)) (fun k_ hk => ⟨trivial, hk.2⟩))) (fun _ h_ => h_)))
           (case aB => exact (by repeat (first | (with_reducible first | exact HB.out | apply Zj | apply Ze | apply Zi | refine Zd ?_ GE226.out | refine Zd ?_ GE227.out | refine Zd ?_ GE228.out) | exact HB.out)))
           (case aF => exact (fun _ _ => trivial))
           (case aO => exact (by (with_reducible repeat (first | apply Zn | apply Zm | apply Zo)); exact Zy HO_229001.out (fun k_ hk => ⟨trivial, fun e_ => hk.2 e_⟩)))
           (case aS => exact (Zs (by repeat (first | (with_reducible first | exact HB.out | apply Zj | apply Ze | apply Zi | refine Zd ?_ GE226.out | refine Zd ?_ GE227.out | refine Zd ?_ GE228.out) | exact HB.out))))
           (case aL => have := LMc27.out; omega)
           intro v238 w35 ho hb hg hat
           rw [← Ny237.out] at ho
           have n0_ := Aside0.mk (ZS (g := gb226) (o := .cells #[.int .i64 a0_0, .slice (some ad230) l0_1.length c0_1] 27 (0, 0)) (by (with_reducible repeat (first | refine Zg ?_ _ | refine Zh ?_ | refine Zf ?_ _)); exact BK226.out) hg (Kd.S_ne HO_229001.out BK226.out (by decide)))
           have n1_ := Aside0.mk (ZS (g := gb227) (o := .cells #[.int .i64 0, .slice none 0 0] 27 (0, 0)) (by (with_reducible repeat (first | refine Zg ?_ _ | refine Zh ?_ | refine Zf ?_ _)); exact BK227.out) hg (Kd.S_ne HO_229001.out BK227.out (by decide)))
           have n2_ := Aside0.mk (ZS (g := gb228) (o := .cells #[.int .i64 a0_0, u229001] 27 (0, 0)) (by (with_reducible repeat (first | refine Zg ?_ _ | refine Zh ?_ | refine Zf ?_ _)); exact BK228.out) hg (Kd.S_ne HO_229001.out BK228.out (by decide)))
           have n3_ := Aside0.mk (hb)
           have n4_ := Aside0.mk (ho)
           clear BK226
           clear BK227
           clear BK228
           clear HB
           clear HO_229001
           clear HO236
           have BK226 := n0_
           have BK227 := n1_
           have BK228 := n2_
           have HB := n3_
           have HO239 := n4_
           clear n0_ n1_ n2_ n3_ n4_
           clear ho hb hg hat
           obtain ⟨Ao37, co37, eo37⟩ := Kd.S_slice HO239.out
           (first | subst eo37 | (injection eo37 with f1_ f2_ f3_; have f4_ := f1_.symm; have f5_ := f3_.symm; clear f1_ f2_ f3_; subst f4_; subst f5_))
           refine hK.out _ _ ⟨(Zk BK228.out 0).trans rfl, (Zk BK228.out 1).trans rfl⟩ (fun hHeld => ?_)
           clear hK K
           refine norm_ (a' := ?_) ?_ ?_
           rotate_left
           ·show Act.put _ (some 68) _ = _
            simp only [Act.put, Za, Zb, Zc, Zq, Zr]
            rfl
           refine Zx (i := 7) (N := some 69) (v := ?_) (a' := ?_) #[Y,Y,Y,Y,Y,Y,Y,Y,O] rfl rfl (Zt HT_.out (by kernel_rfl)) (fun _ _ _ h => h) (Or.inl ⟨by rfl, ?_⟩) ?_ ?_
           rotate_left
           ·intro w'
            go_simp
            with_reducible rfl
           rotate_left
           ·simp only [Act.put, Za, Zb, Zc, Zq, Zr]
            rfl
           refine last_ (i := 8) (N := none) #[Y,Y,Y,Y,Y,Y,Y,Y,Y] rfl rfl (one_of HT_.out (by kernel_rfl)) (by decide) (fun K hK => ?_)
           have hs38 : w35.cell? ⟨gb228, 1, none⟩ = some (u229001) := (Zk BK228.out 1).trans rfl
           have hfs38 := Zl BK228.out 1
           have hns38_0 := NB226_228.out
           have hns38_1 := NB227_228.out
           have hms38_0 := NB228_226.out
           have hms38_1 := NB228_227.out
           refine skip_ (w1 := ?_) (by rfl) rfl ?_ ?_
           rotate_left
           ·go_simp
            rfl
           refine hK.out _ _ ?_
           clear hK K
           refine done_ (done_of HT_.out (by kernel_rfl)) ?_
           try go_wp2
           go_roundg kj11
           case measure => have := HK1.out; have := HJ11.out; omega
           case rel => exact ⟨(true), (wrap64 (x10_1 + 1)), (y237), (.slice Ao37 y237.length co37), (by first | rfl | (simp; done) | (simp [*]; done)), (by first | rfl | (simp; done) | (simp [*]; done)), H', ⟨by have := HK1.out; have := HJ11.out; omega⟩, ⟨by (with_reducible repeat (first | apply Zn | apply Zm | apply Zo)); exact Zy (ZB (p := ⟨gb228, 1, none⟩) (ZJ HO239.out BK228.out (by decide)) (fun _ hk => hk.2) (.slice Ao37 y237.length co37)) (fun _ hk => trivial)⟩, ⟨by (with_reducible repeat (first | refine Zg ?_ _ | refine Zh ?_ | refine Zf ?_ _)); refine ZP ?_ NB226_228.out _; (with_reducible repeat (first | refine Zg ?_ _ | refine Zh ?_ | refine Zf ?_ _)); exact BK226.out⟩, ⟨by (with_reducible repeat (first | refine Zg ?_ _ | refine Zh ?_ | refine Zf ?_ _)); refine ZP ?_ NB227_228.out _; (with_reducible repeat (first | refine Zg ?_ _ | refine Zh ?_ | refine Zf ?_ _)); exact BK227.out⟩, ⟨by (with_reducible repeat (first | refine Zg ?_ _ | refine Zh ?_ | refine Zf ?_ _)); refine blk_put (cs := #[.int .i64 a0_0, u229001]) ?_ 1 _ rfl; (with_reducible repeat (first | refine Zg ?_ _ | refine Zh ?_ | refine Zf ?_ _)); exact BK228.out⟩, ⟨by repeat (first | (with_reducible first | exact HB.out | apply Zj | apply Ze | apply Zi | refine Zd ?_ GE226.out | refine Zd ?_ GE227.out | refine Zd ?_ GE228.out) | exact HB.out)⟩⟩
          ·rw [if_neg c27] at H
           exact absurd H (by simp)
         ·rw [if_neg c26] at H
          exact absurd H (by simp)
        ·replace c25 := Bool.eq_false_iff.mpr c25
         subst c25
         have H1 : (if 0 < ((rd_L1 l0_1 x10_1).length : Int) then (if (rd (rd_L1 l0_1 x10_1) 0) > a1 then (if x229001_1.length < 5864062014805 then ((some (x229001_1 ++ [(([a1, a2] : List Int))] : List (List Int))).bind fun y244 => ((some (([] : List Int) : List Int)).bind fun y247 => (if y247.length + (rd_L1 l0_1 x10_1).length < 17592186044416 then (if y244.length < 5864062014805 then (spec_AddAttack.l0 kj11 a1 a2 true (wrap64 (x10_1 + 1)) a0_0 l0_1 a0_0 (y244 ++ [(y247 ++ (rd_L1 l0_1 x10_1))])) else (none)) else (none)))) else (none)) else (if (rd (rd_L1 l0_1 x10_1) 0) = a1 then (if 1 < ((rd_L1 l0_1 x10_1).length : Int) then (if (rd (rd_L1 l0_1 x10_1) 1) > a2 then (if x229001_1.length < 5864062014805 then ((some (x229001_1 ++ [(([a1, a2] : List Int))] : List (List Int))).bind fun y261 => ((some (([] : List Int) : List Int)).bind fun y264 => (if y264.length + (rd_L1 l0_1 x10_1).length < 17592186044416 then (if y261.length < 5864062014805 then (spec_AddAttack.l0 kj11 a1 a2 true (wrap64 (x10_1 + 1)) a0_0 l0_1 a0_0 (y261 ++ [(y264 ++ (rd_L1 l0_1 x10_1))])) else (none)) else (none)))) else (none)) else ((some (([] : List Int) : List Int)).bind fun y273 => (if y273.length + (rd_L1 l0_1 x10_1).length < 17592186044416 then (if x229001_1.length < 5864062014805 then (spec_AddAttack.l0 kj11 a1 a2 false (wrap64 (x10_1 + 1)) a0_0 l0_1 a0_0 (x229001_1 ++ [(y273 ++ (rd_L1 l0_1 x10_1))])) else (none)) else (none)))) else (none)) else ((some (([] : List Int) : List Int)).bind fun y282 => (if y282.length + (rd_L1 l0_1 x10_1).length < 17592186044416 then (if x229001_1.length < 5864062014805 then (spec_AddAttack.l0 kj11 a1 a2 false (wrap64 (x10_1 + 1)) a0_0 l0_1 a0_0 (x229001_1 ++ [(y282 ++ (rd_L1 l0_1 x10_1))])) else (none)) else (none))))) else (none)) = some (r1, r2, r3) := by rw [if_neg (show ¬ (false = true) by decide)] at H; exact H
         clear H
         have H := H1
         clear H1
         by_cases c39 : 0 < ((rd_L1 l0_1 x10_1).length : Int)
         ·rw [if_pos c39] at H
          have c39b0 : decide (0 < ((rd_L1 l0_1 x10_1).length : Int)) = true := decide_eq_true c39
          have c39b1 : decide (0 < (rd_L1 l0_1 x10_1).length) = true := decide_eq_true (by omega)
          clear c39
          by_cases c40 : (rd (rd_L1 l0_1 x10_1) 0) > a1
          ·rw [if_pos c40] at H
           have c40b0 : decide (a1 < (rd (rd_L1 l0_1 x10_1) 0)) = true := decide_eq_true c40
           clear c40
           obtain ⟨y241, hy241⟩ : ∃ y_ : List Int, y_ = (([a1, a2] : List Int)) := ⟨_, rfl⟩
           replace H : (if x229001_1.length < 5864062014805 then ((some (x229001_1 ++ [y241] : List (List Int))).bind fun y244 => ((some (([] : List Int) : List Int)).bind fun y247 => (if y247.length + (rd_L1 l0_1 x10_1).length < 17592186044416 then (if y244.length < 5864062014805 then (spec_AddAttack.l0 kj11 a1 a2 true (wrap64 (x10_1 + 1)) a0_0 l0_1 a0_0 (y244 ++ [(y247 ++ (rd_L1 l0_1 x10_1))])) else (none)) else (none)))) else (none)) = some (r1, r2, r3) := by first | (rw [hy241]; with_reducible exact H) | (have H2_ := (Option.bind_some _ _).symm.trans H; rw [hy241]; with_reducible exact H2_) | (have H2_ := (Option.bind_some _ _).symm.trans H; with_reducible exact H2_) | with_reducible exact H | (rw [hy241]; exact H) | exact H
           have Ny241 := Aside0.mk hy241
           clear hy241
           by_cases c41 : x229001_1.length < 5864062014805
           ·rw [if_pos c41] at H
            have LMc41 := Aside0.mk c41
            clear c41
            obtain ⟨y244, hy244⟩ : ∃ y_ : List (List Int), y_ = (x229001_1 ++ [y241]) := ⟨_, rfl⟩
            replace H : ((some (([] : List Int) : List Int)).bind fun y247 => (if y247.length + (rd_L1 l0_1 x10_1).length < 17592186044416 then (if y244.length < 5864062014805 then (spec_AddAttack.l0 kj11 a1 a2 true (wrap64 (x10_1 + 1)) a0_0 l0_1 a0_0 (y244 ++ [(y247 ++ (rd_L1 l0_1 x10_1))])) else (none)) else (none))) = some (r1, r2, r3) := by first | (rw [hy244]; with_reducible exact H) | (have H2_ := (Option.bind_some _ _).symm.trans H; rw [hy244]; with_reducible exact H2_) | (have H2_ := (Option.bind_some _ _).symm.trans H; with_reducible exact H2_) | with_reducible exact H | (rw [hy244]; exact H) | exact H
            have Ny244 := Aside0.mk hy244
            clear hy244
            obtain ⟨y247, hy247⟩ : ∃ y_ : List Int, y_ = (([] : List Int)) := ⟨_, rfl⟩
            replace H : (if y247.length + (rd_L1 l0_1 x10_1).length < 17592186044416 then (if y244.length < 5864062014805 then (spec_AddAttack.l0 kj11 a1 a2 true (wrap64 (x10_1 + 1)) a0_0 l0_1 a0_0 (y244 ++ [(y247 ++ (rd_L1 l0_1 x10_1))])) else (none)) else (none)) = some (r1, r2, r3) := by first | (rw [hy247]; with_reducible exact H) | (have H2_ := (Option.bind_some _ _).symm.trans H; rw [hy247]; with_reducible exact H2_) | (have H2_ := (Option.bind_some _ _).symm.trans H; with_reducible exact H2_) | with_reducible exact H | (rw [hy247]; exact H) | exact H
            have Ny247 := Aside0.mk hy247
            clear hy247
            by_cases c42 : y247.length + (rd_L1 l0_1 x10_1).length < 17592186044416
            ·rw [if_pos c42] at H
             have LMc42 := Aside0.mk c42
             clear c42
             obtain ⟨y250, hy250⟩ : ∃ y_ : List Int, y_ = (y247 ++ (rd_L1 l0_1 x10_1)) := ⟨_, rfl⟩
             replace H : (if y244.length < 5864062014805 then (spec_AddAttack.l0 kj11 a1 a2 true (wrap64 (x10_1 + 1)) a0_0 l0_1 a0_0 (y244 ++ [y250])) else (none)) = some (r1, r2, r3) := by first | (rw [hy250]; with_reducible exact H) | (have H2_ := (Option.bind_some _ _).symm.trans H; rw [hy250]; with_reducible exact H2_) | (have H2_ := (Option.bind_some _ _).symm.trans H; with_reducible exact H2_) | with_reducible exact H | (rw [hy250]; exact H) | exact H
             have Ny250 := Aside0.mk hy250
             clear hy250
             by_cases c43 : y244.length < 5864062014805
             ·rw [if_pos c43] at H
              have LMc43 := Aside0.mk c43
              clear c43
              obtain ⟨y253, hy253⟩ : ∃ y_ : List (List Int), y_ = (y244 ++ [y250]) := ⟨_, rfl⟩
              replace H : (spec_AddAttack.l0 kj11 a1 a2 true (wrap64 (x10_1 + 1)) a0_0 l0_1 a0_0 y253) = some (r1, r2, r3) := by first | (rw [hy253]; with_reducible exact H) | (have H2_ := (Option.bind_some _ _).symm.trans H; rw [hy253]; with_reducible exact H2_) | (have H2_ := (Option.bind_some _ _).symm.trans H; with_reducible exact H2_) | with_reducible exact H | (rw [hy253]; exact H) | exact H
              have Ny253 := Aside0.mk hy253
              clear hy253
              have H' := Aside0.mk H
              clear H
              have hnb44 := NB226_227.out
              have hnc44 := NB227_226.out
              have hnb45 := NB226_228.out
              have hnc45 := NB228_226.out
              have hcz46_0 : wc.cell? ⟨gb226, 0, none⟩ = some (.int .i64 a0_0) := (Zk BK226.out 0).trans rfl
              have hcz46_1 : wc.cell? ⟨gb226, 1, none⟩ = some (.slice A0_1 l0_1.length c0_1) := (Zk BK226.out 1).trans rfl
              have hfz46_0 := Zl BK226.out 0
              have hfz46_1 := Zl BK226.out 1
              have p230 : 0 ≤ (x10_1 : Int) := of_decide_eq_true (by first | (with_reducible assumption) | assumption)
              have q230 : x10_1 < (l0_1.length : Int) := of_decide_eq_true (by first | (with_reducible assumption) | assumption)
              obtain ⟨ad230, A230_0, c230_0, e230, hx230_0, hl230_0, hi230_0⟩ := at_L1 HR0_1.out x10_1 p230 q230
              cases e230
              replace hx230_0 := (HB.out.cell (World.block_lt_of_cell? w _ hx230_0)).trans hx230_0
              have HR230_0 := Aside0.mk hi230_0
              have HC230_0 := Aside0.mk hl230_0
              clear hi230_0 hl230_0
              replace p230 := eq_true p230
              replace q230 := eq_true q230
              have p240 : 0 ≤ (0 : Int) := (by omega)
              have q240 : 0 < ((rd_L1 l0_1 x10_1).length : Int) := of_decide_eq_true (by first | (with_reducible assumption) | assumption)
              obtain ⟨ad240, e240, hx240_0⟩ := ZI HR230_0.out 0 p240 q240
              cases e240
              have qi240 : (0 < (rd_L1 l0_1 x10_1).length) = True := eq_true (by omega)
              (try rw [show ((0 : Int)).toNat = 0 from rfl] at hx240_0)
              (try rw [Addr.add_zero'] at hx240_0)
              replace hx240_0 := (HB.out.cell (World.block_lt_of_cell? w _ hx240_0)).trans hx240_0
              replace p240 := eq_true p240
              replace q240 := eq_true q240
              have hnb47 := NB228_227.out
              have hnc47 := NB227_228.out
              have hcz48_0 : wc.cell? ⟨gb228, 0, none⟩ = some (.int .i64 a0_0) := (Zk BK228.out 0).trans rfl
              have hcz48_1 : wc.cell? ⟨gb228, 1, none⟩ = some (u229001) := (Zk BK228.out 1).trans rfl
              have hfz48_0 := Zl BK228.out 0
              have hfz48_1 := Zl BK228.out 1
              try go_wp2_with (first | ((with_reducible refine gate_dst (N := 58) rfl ?_); refine Kd.R_lit (Kd.int .i64) _ 3 ?hg (N := 58) ?hd (xs := ([a1, a2] : List Int)) (inner := [.int .i64 a1, .int .i64 a2]) (ok := fun _ => True) (okp := fun _ => True) ?hr ?hp (fun _ hk => hk) trivial (Below.refl _ _) (Nat.le_refl _) (by simp) ?_; (case hd => rfl); (case hg => rfl); (case hr => first | (go_simp; done) | (go_simp; rfl)); (case hp => exact (Reps.one (show Kd.M (Kd.int .i64) _ _ _ a1 [.int .i64 a1] from rfl) (Reps.one (show Kd.M (Kd.int .i64) _ _ _ a2 [.int .i64 a2] from rfl) (Reps.none _ _)))); intro v242 w49 ho50 hb hg_ hnew_; clear hg_ hnew_; (first | rw [← Ny241.out] at ho50 | (simp only [Int.reduceToNat] at ho50; rw [← Ny241.out] at ho50)); have n0_ := Aside0.mk (ZK (by (with_reducible repeat (first | apply Zn | apply Zm | apply Zo)); exact HO_229001.out) (Kd.R_base ho50) hb); have n1_ := Aside0.mk (Kd.R_lower ho50 (Zs (by repeat (first | (with_reducible first | exact HB.out | apply Zj | apply Ze | apply Zi | refine Zd ?_ GE226.out | refine Zd ?_ GE227.out | refine Zd ?_ GE228.out) | exact HB.out)))); have n2_ := Aside0.mk (Zp (g := gb226) (o := .cells #[.int .i64 a0_0, .slice (some ad230) l0_1.length c0_1] 27 (0, 0)) (by (with_reducible repeat (first | refine Zg ?_ _ | refine Zh ?_ | refine Zf ?_ _)); exact BK226.out) hb); have n3_ := Aside0.mk (Zp (g := gb227) (o := .cells #[.int .i64 0, .slice none 0 0] 27 (0, 0)) (by (with_reducible repeat (first | refine Zg ?_ _ | refine Zh ?_ | refine Zf ?_ _)); exact BK227.out) hb); have n4_ := Aside0.mk (Zp (g := gb228) (o := .cells #[.int .i64 a0_0, u229001] 27 (0, 0)) (by (with_reducible repeat (first | refine Zg ?_ _ | refine Zh ?_ | refine Zf ?_ _)); exact BK228.out) hb); have n5_ := Aside0.mk (Zu (by repeat (first | (with_reducible first | exact HB.out | apply Zj | apply Ze | apply Zi | refine Zd ?_ GE226.out | refine Zd ?_ GE227.out | refine Zd ?_ GE228.out) | exact HB.out)) hb); clear HO_229001; clear BK226; clear BK227; clear BK228; clear HB; have HO_229001 := n0_; have HO243 := n1_; have BK226 := n2_; have BK227 := n3_; have BK228 := n4_; have HB := n5_; clear n0_ n1_ n2_ n3_ n4_ n5_; clear hb ho50; obtain ⟨Ao52, co52, eo52⟩ := Kd.R_slice HO243.out; subst eo52) | ((with_reducible refine gate_builtin (b := .append) (xs := #[.tmp 55, .tmp 59]) rfl ?_); at_builtin; refine Kd.S_append (Kd.slice 3 (Kd.int .i64)) (w0 := w) w.heap.size rfl (.tmp 55) (.tmp 59) 22 31 (.slice none 0 0) 24 rfl Try.underlying22 info31 rfl (by decide) (by omega) u229001 x229001_1 y241 [.slice Ao52 y241.length co52] (fun _ => True) (fun k_ => some k_ = (.slice Ao52 y241.length co52 : Value).ownBlock) rfl rfl ?aP (fun k_ hk_ => ((ZR (ok' := fun k_ => ((fun _ => True)) k_ ∧ some k_ ≠ (u229001 : Value).ownBlock) (Kd.R_apart' (HO243.out) (Kd.S_typed HO_229001.out) (by decide)) (fun k_ hk => ⟨trivial, hk.2⟩))).1 k_ hk_.symm) ?aF ?aO ?aB ?aS ?aL ?_; (case aP => exact Kd.M_row (ZR (Kd.R_tight rfl (ZR (ok' := fun k_ => ((fun _ => True)) k_ ∧ some k_ ≠ (u229001 : Value).ownBlock) (Kd.R_apart' (HO243.out) (Kd.S_typed HO_229001.out) (by decide)) (fun k_ hk => ⟨trivial, hk.2⟩))) (fun _ h_ => h_))); (case aB => exact (by repeat (first | (with_reducible first | exact HB.out | apply Zj | apply Ze | apply Zi | refine Zd ?_ GE226.out | refine Zd ?_ GE227.out | refine Zd ?_ GE228.out) | exact HB.out))); (case aF => exact (fun _ _ => trivial)); (case aO => exact (by (with_reducible repeat (first | apply Zn | apply Zm | apply Zo)); exact Zy HO_229001.out (fun k_ hk => ⟨trivial, fun e_ => hk.2 e_⟩))); (case aS => exact (Zs (by repeat (first | (with_reducible first | exact HB.out | apply Zj | apply Ze | apply Zi | refine Zd ?_ GE226.out | refine Zd ?_ GE227.out | refine Zd ?_ GE228.out) | exact HB.out)))); (case aL => have := LMc41.out; omega); intro v245 w51 ho hb hg hat; rw [← Ny244.out] at ho; have n0_ := Aside0.mk (ZS (g := gb226) (o := .cells #[.int .i64 a0_0, .slice (some ad230) l0_1.length c0_1] 27 (0, 0)) (by (with_reducible repeat (first | refine Zg ?_ _ | refine Zh ?_ | refine Zf ?_ _)); exact BK226.out) hg (Kd.S_ne HO_229001.out BK226.out (by decide))); have n1_ := Aside0.mk (ZS (g := gb227) (o := .cells #[.int .i64 0, .slice none 0 0] 27 (0, 0)) (by (with_reducible repeat (first | refine Zg ?_ _ | refine Zh ?_ | refine Zf ?_ _)); exact BK227.out) hg (Kd.S_ne HO_229001.out BK227.out (by decide))); have n2_ := Aside0.mk (ZS (g := gb228) (o := .cells #[.int .i64 a0_0, u229001] 27 (0, 0)) (by (with_reducible repeat (first | refine Zg ?_ _ | refine Zh ?_ | refine Zf ?_ _)); exact BK228.out) hg (Kd.S_ne HO_229001.out BK228.out (by decide))); have n3_ := Aside0.mk (hb); have n4_ := Aside0.mk (ho); clear BK226; clear BK227; clear BK228; clear HB; clear HO_229001; clear HO243; have BK226 := n0_; have BK227 := n1_; have BK228 := n2_; have HB := n3_; have HO246 := n4_; clear n0_ n1_ n2_ n3_ n4_; clear ho hb hg hat; obtain ⟨Ao53, co53, eo53⟩ := Kd.S_slice HO246.out; subst eo53; have hcz54_0 : w51.cell? ⟨gb228, 0, none⟩ = some (.int .i64 a0_0) := (Zk BK228.out 0).trans rfl; have hcz54_1 : w51.cell? ⟨gb228, 1, none⟩ = some (u229001) := (Zk BK228.out 1).trans rfl; have hfz54_0 := Zl BK228.out 0; have hfz54_1 := Zl BK228.out 1))
              have n0_ : Aside0 (Kd.S (Kd.slice 3 (Kd.int .i64)) 31 (w51.setCell ⟨gb228, 1, none⟩ (.slice Ao53 y244.length co53)) w.heap.size (fun _ => True) (.slice Ao53 y244.length co53) y244) := ⟨by (with_reducible repeat (first | apply Zn | apply Zm | apply Zo)); exact Zy (ZB (p := ⟨gb228, 1, none⟩) (ZJ HO246.out BK228.out (by decide)) (fun _ hk => hk.2) (.slice Ao53 y244.length co53)) (fun _ hk => trivial)⟩
              have n1_ : Aside0 ((w51.setCell ⟨gb228, 1, none⟩ (.slice Ao53 y244.length co53)).heap[gb226]? = some (.cells #[.int .i64 a0_0, .slice (some ad230) l0_1.length c0_1] 27 (0, 0))) := ⟨by (with_reducible repeat (first | refine Zg ?_ _ | refine Zh ?_ | refine Zf ?_ _)); refine ZP ?_ NB226_228.out _; (with_reducible repeat (first | refine Zg ?_ _ | refine Zh ?_ | refine Zf ?_ _)); exact BK226.out⟩
              have n2_ : Aside0 ((w51.setCell ⟨gb228, 1, none⟩ (.slice Ao53 y244.length co53)).heap[gb227]? = some (.cells #[.int .i64 0, .slice none 0 0] 27 (0, 0))) := ⟨by (with_reducible repeat (first | refine Zg ?_ _ | refine Zh ?_ | refine Zf ?_ _)); refine ZP ?_ NB227_228.out _; (with_reducible repeat (first | refine Zg ?_ _ | refine Zh ?_ | refine Zf ?_ _)); exact BK227.out⟩
              have n3_ : Aside0 ((w51.setCell ⟨gb228, 1, none⟩ (.slice Ao53 y244.length co53)).heap[gb228]? = some (.cells #[.int .i64 a0_0, .slice Ao53 y244.length co53] 27 (0, 0))) := ⟨by (with_reducible repeat (first | refine Zg ?_ _ | refine Zh ?_ | refine Zf ?_ _)); refine blk_put (cs := #[.int .i64 a0_0, u229001]) ?_ 1 _ rfl; (with_reducible repeat (first | refine Zg ?_ _ | refine Zh ?_ | refine Zf ?_ _)); exact BK228.out⟩
              have n4_ : Aside0 (Below w.heap.size w (w51.setCell ⟨gb228, 1, none⟩ (.slice Ao53 y244.length co53))) := ⟨by repeat (first | (with_reducible first | exact HB.out | apply Zj | apply Ze | apply Zi | refine Zd ?_ GE226.out | refine Zd ?_ GE227.out | refine Zd ?_ GE228.out) | exact HB.out)⟩
              (try clear HO246)
              (try clear BK226)
              (try clear BK227)
              (try clear BK228)
              (try clear HB)
              generalize (w51.setCell ⟨gb228, 1, none⟩ (.slice Ao53 y244.length co53)) = w55 at n0_ n1_ n2_ n3_ n4_ ⊢
              have HO246 := n0_
              have BK226 := n1_
              have BK227 := n2_
              have BK228 := n3_
              have HB := n4_
              clear n0_ n1_ n2_ n3_ n4_
              have n0_ := Aside0.mk (Zo HO246.out)
              have n1_ := Aside0.mk (Zh BK226.out)
              have n2_ := Aside0.mk (Zh BK227.out)
              have n3_ := Aside0.mk (Zh BK228.out)
              have n4_ := Aside0.mk (Zi HB.out)
              clear HO246
              clear BK226
              clear BK227
              clear BK228
              clear HB
              have HO246 := n0_
              have BK226 := n1_
              have BK227 := n2_
              have BK228 := n3_
              have HB := n4_
              clear n0_ n1_ n2_ n3_ n4_
              refine start_ (n := 9) (S := fun w' => w'.cell? ⟨gb228, 0, none⟩ = some (.int .i64 a0_0) ∧ w'.cell? ⟨gb228, 1, none⟩ = some (.slice Ao53 y244.length co53)) (ds := [8]) #[O,O,O,O,O,O,O,O,O] (by kernel_rfl) rfl rfl ⟨(Zk BK228.out 0).trans rfl, (Zk BK228.out 1).trans rfl⟩ (fun hHeld => ?_); refine with_tabW spec_AddAttack.tab10 spec_AddAttack.bits10 (fun HT_ HW_ => ?_)
              generalize w55.drew = w56 at HO246 BK226 BK227 BK228 HB hHeld ⊢
              refine Zx (i := 0) (N := some 62) (v := ?_) (a' := ?_) #[Y,O,O,O,O,O,O,O,O] rfl rfl (Zt HT_.out (by kernel_rfl)) (fun _ _ _ h => h) (Or.inl ⟨by rfl, ?_⟩) ?_ ?_
              rotate_left
              ·intro w'
               go_simp
               with_reducible rfl
              rotate_left
              ·simp only [Act.put, Za, Zb, Zc, Zq, Zr]
               rfl
              refine Zx (i := 3) (N := some 65) (v := ?_) (a' := ?_) #[Y,O,O,Y,O,O,O,O,O] rfl rfl (Zt HT_.out (by kernel_rfl)) (fun _ _ _ h => h) (Or.inl ⟨by rfl, ?_⟩) ?_ ?_
              rotate_left
              ·intro w'
               go_simp
               with_reducible rfl
              rotate_left
              ·simp only [Act.put, Za, Zb, Zc, Zq, Zr]
               rfl
              refine take_ (i := 1) (N := some 63) (v := ?_) (a' := ?_) #[Y,Y,O,Y,O,O,O,O,O] rfl rfl (take_ofW HT_.out HW_.out (by kernel_rfl)) (fun _ _ _ h => h) (Or.inl ⟨by rfl, ?_⟩) hHeld ?_ ?_
              rotate_left
              ·rintro w' ⟨s0, s1⟩
               go_simp
               with_reducible rfl
              rotate_left
              ·simp only [Act.put, Za, Zb, Zc, Zq, Zr]
               rfl
              refine one_ (i := 2) (N := some 64) #[Y,Y,Y,Y,O,O,O,O,O] rfl rfl (one_of HT_.out (by kernel_rfl)) (by decide) (fun K hK => ?_)
              refine Kd.R_lit_step (Kd.int .i64) _ 3 ?hg (N := 64) ?hd (xs := ([] : List Int)) (inner := []) (ok := fun _ => True) (okp := fun _ => True) ?hr ?hp (fun _ hk => hk) trivial (Below.refl _ _) (Nat.le_refl _) (by simp) ?_; (case hd => rfl); (case hg => rfl); (case hr => first | (go_simp; done) | (go_simp; rfl)); (case hp => exact (Reps.none _ _))
              intro v248 w57 ho58 hb hg_ hnew_
              clear hg_ hnew_
              (first | rw [← Ny247.out] at ho58 | (simp only [Int.reduceToNat] at ho58; rw [← Ny247.out] at ho58))
              have n0_ := Aside0.mk (ZK (by (with_reducible repeat (first | apply Zn | apply Zm | apply Zo)); exact HO246.out) (Kd.R_base ho58) hb)
              have n1_ := Aside0.mk (Kd.R_lower ho58 (Zs (by repeat (first | (with_reducible first | exact HB.out | apply Zj | apply Ze | apply Zi | refine Zd ?_ GE226.out | refine Zd ?_ GE227.out | refine Zd ?_ GE228.out) | exact HB.out))))
              have n2_ := Aside0.mk (Zp (g := gb226) (o := .cells #[.int .i64 a0_0, .slice (some ad230) l0_1.length c0_1] 27 (0, 0)) (by (with_reducible repeat (first | refine Zg ?_ _ | refine Zh ?_ | refine Zf ?_ _)); exact BK226.out) hb)
              have n3_ := Aside0.mk (Zp (g := gb227) (o := .cells #[.int .i64 0, .slice none 0 0] 27 (0, 0)) (by (with_reducible repeat (first | refine Zg ?_ _ | refine Zh ?_ | refine Zf ?_ _)); exact BK227.out) hb)
              have n4_ := Aside0.mk (Zp (g := gb228) (o := .cells #[.int .i64 a0_0, .slice Ao53 y244.length co53] 27 (0, 0)) (by (with_reducible repeat (first | refine Zg ?_ _ | refine Zh ?_ | refine Zf ?_ _)); exact BK228.out) hb)
              have n5_ := Aside0.mk (Zu (by repeat (first | (with_reducible first | exact HB.out | apply Zj | apply Ze | apply Zi | refine Zd ?_ GE226.out | refine Zd ?_ GE227.out | refine Zd ?_ GE228.out) | exact HB.out)) hb)
              clear HO246
              clear BK226
              clear BK227
              clear BK228
              clear HB
              have HO246 := n0_
              have HO249 := n1_
              have BK226 := n2_
              have BK227 := n3_
              have BK228 := n4_
              have HB := n5_
              clear n0_ n1_ n2_ n3_ n4_ n5_
              clear hb ho58
              refine hK.out _ _ ⟨(Zk BK228.out 0).trans rfl, (Zk BK228.out 1).trans rfl⟩ (fun hHeld => ?_)
              clear hK K
              refine norm_ (a' := ?_) ?_ ?_
              rotate_left
              ·show Act.put _ (some 64) _ = _
               simp only [Act.put, Za, Zb, Zc, Zq, Zr]
               rfl
              refine one_ (i := 4) (N := some 66) #[Y,Y,Y,Y,Y,O,O,O,O] rfl rfl (one_of HT_.out (by kernel_rfl)) (by decide) (fun K hK => ?_)
              refine Kd.R_append_rows_step (Kd.int .i64) (w0 := w) w.heap.size (by rfl) (.tmp 64) (.tmp 65) 31 3 (.int .i64 0) 8 rfl Try.underlying31 info3 rfl (by decide) (by omega) v248 y247 (rd_L1 l0_1 x10_1) _ _ _ (fun _ => True) (fun _ => False) rfl rfl ?aO ?aR (fun _ _ h => h) (fun _ h => h.elim) ?aF ?aB ?aS ?aL ?_
              (case aR => repeat (first | exact (ZG HR230_0.out HB.out) | (with_reducible refine Zw ?_ _) | (with_reducible refine Zv ?_ _) | (with_reducible refine Zz ?_)))
              (case aB => exact (by repeat (first | (with_reducible first | exact HB.out | apply Zj | apply Ze | apply Zi | refine Zd ?_ GE226.out | refine Zd ?_ GE227.out | refine Zd ?_ GE228.out) | exact HB.out)))
              (case aF => exact (fun _ _ => trivial))
              (case aO => exact (by (with_reducible repeat (first | apply ZO | apply ZN | apply ZQ)); exact HO249.out))
              (case aS => exact (Zs (by repeat (first | (with_reducible first | exact HB.out | apply Zj | apply Ze | apply Zi | refine Zd ?_ GE226.out | refine Zd ?_ GE227.out | refine Zd ?_ GE228.out) | exact HB.out))))
              (case aL => have := LMc42.out; omega)
              intro v251 w59 ho hb hg hat
              rw [← Ny250.out] at ho
              have n0_ := Aside0.mk (ZS (g := gb226) (o := .cells #[.int .i64 a0_0, .slice (some ad230) l0_1.length c0_1] 27 (0, 0)) (by (with_reducible repeat (first | refine Zg ?_ _ | refine Zh ?_ | refine Zf ?_ _)); exact BK226.out) hg (Kd.R_ne HO249.out BK226.out (by decide)))
              have n1_ := Aside0.mk (ZS (g := gb227) (o := .cells #[.int .i64 0, .slice none 0 0] 27 (0, 0)) (by (with_reducible repeat (first | refine Zg ?_ _ | refine Zh ?_ | refine Zf ?_ _)); exact BK227.out) hg (Kd.R_ne HO249.out BK227.out (by decide)))
              have n2_ := Aside0.mk (ZS (g := gb228) (o := .cells #[.int .i64 a0_0, .slice Ao53 y244.length co53] 27 (0, 0)) (by (with_reducible repeat (first | refine Zg ?_ _ | refine Zh ?_ | refine Zf ?_ _)); exact BK228.out) hg (Kd.R_ne HO249.out BK228.out (by decide)))
              have n3_ := Aside0.mk (Kd.S_after (ok := (fun _ => True)) (by (with_reducible repeat (first | apply Zn | apply Zm | apply Zo)); exact HO246.out) hg hat)
              have n4_ := Aside0.mk (hb)
              have n5_ := Aside0.mk (ho)
              clear BK226
              clear BK227
              clear BK228
              clear HO246
              clear HB
              clear HO249
              have BK226 := n0_
              have BK227 := n1_
              have BK228 := n2_
              have HO246 := n3_
              have HB := n4_
              have HO252 := n5_
              clear n0_ n1_ n2_ n3_ n4_ n5_
              clear ho hb hg hat
              obtain ⟨Ao61, co61, eo61⟩ := Kd.R_slice HO252.out
              (first | subst eo61 | (injection eo61 with f1_ f2_ f3_; have f4_ := f1_.symm; have f5_ := f3_.symm; clear f1_ f2_ f3_; subst f4_; subst f5_))
              refine hK.out _ _ ⟨(Zk BK228.out 0).trans rfl, (Zk BK228.out 1).trans rfl⟩ (fun hHeld => ?_)
              clear hK K
              refine norm_ (a' := ?_) ?_ ?_
              rotate_left
              ·show Act.put _ (some 66) _ = _
               simp only [Act.put, Za, Zb, Zc, Zq, Zr]
               rfl
              refine one_ (i := 5) (N := some 67) #[Y,Y,Y,Y,Y,Y,O,O,O] rfl rfl (one_of HT_.out (by kernel_rfl)) (by decide) (fun K hK => ?_)
              refine value_ (w1 := ?_) (v := ?_) (by rfl) rfl ?_ ?_
              rotate_left 2
              ·go_simp
               constructor
               ·rfl
               ·rfl
              refine hK.out _ _ ⟨(Zk (Zf BK228.out _) 0).trans rfl, (Zk (Zf BK228.out _) 1).trans rfl⟩ (fun hHeld => ?_)
              clear hK K
              refine norm_ (a' := ?_) ?_ ?_
              rotate_left
              ·show Act.put _ (some 67) _ = _
               simp only [Act.put, Za, Zb, Zc, Zq, Zr]
               rfl
              refine one_ (i := 6) (N := some 68) #[Y,Y,Y,Y,Y,Y,Y,O,O] rfl rfl (one_of HT_.out (by kernel_rfl)) (by decide) (fun K hK => ?_)
              refine Kd.S_append_step (Kd.slice 3 (Kd.int .i64)) (w0 := w) w.heap.size (by rfl) (.tmp 63) (.tmp 67) 22 31 (.slice none 0 0) 24 rfl Try.underlying22 info31 rfl (by decide) (by omega) (.slice Ao53 y244.length co53) y244 y250 [.slice Ao61 y250.length co61] (fun _ => True) (fun k_ => some k_ = (.slice Ao61 y250.length co61 : Value).ownBlock) rfl rfl ?aP (fun k_ hk_ => ((ZR (ok' := fun k_ => ((fun _ => True)) k_ ∧ some k_ ≠ (.slice Ao53 y244.length co53 : Value).ownBlock) (Kd.R_apart' (HO252.out) (Kd.S_typed HO246.out) (by decide)) (fun k_ hk => ⟨trivial, hk.2⟩))).1 k_ hk_.symm) ?aF ?aO ?aB ?aS ?aL ?_
              (case aP => exact Kd.M_row (ZR (Kd.R_tight rfl (ZR (ok' := fun k_ => ((fun _ => True)) k_ ∧ some k_ ≠ (.slice Ao53 y244.length co53 : Value).ownBlock) (Kd.R_apart' (HO252.out) (Kd.S_typed HO246.out) (by decide)) (fun k_ hk => ⟨trivial, hk.2⟩))) (fun _ h_ => h_)))
              (case aB => exact (by repeat (first | (with_reducible first | exact HB.out | apply Zj | apply Ze | apply Zi | refine Zd ?_ GE226.out | refine Zd ?_ GE227.out | refine Zd ?_ GE228.out) | exact HB.out)))
              (case aF => exact (fun _ _ => trivial))
              (case aO => exact (by (with_reducible repeat (first | apply Zn | apply Zm | apply Zo)); exact Zy HO246.out (fun k_ hk => ⟨trivial, fun e_ => hk.2 e_⟩)))
              (case aS => exact (Zs (by repeat (first | (with_reducible first | exact HB.out | apply Zj | apply Ze | apply Zi | refine Zd ?_ GE226.out | refine Zd ?_ GE227.out | refine Zd ?_ GE228.out) | exact HB.out))))
              (case aL => have := LMc43.out; omega)
              intro v254 w60 ho hb hg hat
              rw [← Ny253.out] at ho
              have n0_ := Aside0.mk (ZS (g := gb226) (o := .cells #[.int .i64 a0_0, .slice (some ad230) l0_1.length c0_1] 27 (0, 0)) (by (with_reducible repeat (first | refine Zg ?_ _ | refine Zh ?_ | refine Zf ?_ _)); exact BK226.out) hg (Kd.S_ne HO246.out BK226.out (by decide)))
              have n1_ := Aside0.mk (ZS (g := gb227) (o := .cells #[.int .i64 0, .slice none 0 0] 27 (0, 0)) (by (with_reducible repeat (first | refine Zg ?_ _ | refine Zh ?_ | refine Zf ?_ _)); exact BK227.out) hg (Kd.S_ne HO246.out BK227.out (by decide)))
              have n2_ := Aside0.mk (ZS (g := gb228) (o := .cells #[.int .i64 a0_0, .slice Ao53 y244.length co53] 27 (0, 0)) (by (with_reducible repeat (first | refine Zg ?_ _ | refine Zh ?_ | refine Zf ?_ _)); exact BK228.out) hg (Kd.S_ne HO246.out BK228.out (by decide)))
              have n3_ := Aside0.mk (hb)
              have n4_ := Aside0.mk (ho)
              clear BK226
              clear BK227
              clear BK228
              clear HB
              clear HO246
              clear HO252
              have BK226 := n0_
              have BK227 := n1_
              have BK228 := n2_
              have HB := n3_
              have HO255 := n4_
              clear n0_ n1_ n2_ n3_ n4_
              clear ho hb hg hat
              obtain ⟨Ao62, co62, eo62⟩ := Kd.S_slice HO255.out
              (first | subst eo62 | (injection eo62 with f1_ f2_ f3_; have f4_ := f1_.symm; have f5_ := f3_.symm; clear f1_ f2_ f3_; subst f4_; subst f5_))
              refine hK.out _ _ ⟨(Zk BK228.out 0).trans rfl, (Zk BK228.out 1).trans rfl⟩ (fun hHeld => ?_)
              clear hK K
              refine norm_ (a' := ?_) ?_ ?_
              rotate_left
              ·show Act.put _ (some 68) _ = _
               simp only [Act.put, Za, Zb, Zc, Zq, Zr]
               rfl
              refine Zx (i := 7) (N := some 69) (v := ?_) (a' := ?_) #[Y,Y,Y,Y,Y,Y,Y,Y,O] rfl rfl (Zt HT_.out (by kernel_rfl)) (fun _ _ _ h => h) (Or.inl ⟨by rfl, ?_⟩) ?_ ?_
              rotate_left
              ·intro w'
               go_simp
               with_reducible rfl
              rotate_left
              ·simp only [Act.put, Za, Zb, Zc, Zq, Zr]
               rfl
              refine last_ (i := 8) (N := none) #[Y,Y,Y,Y,Y,Y,Y,Y,Y] rfl rfl (one_of HT_.out (by kernel_rfl)) (by decide) (fun K hK => ?_)
              have hs63 : w60.cell? ⟨gb228, 1, none⟩ = some (.slice Ao53 y244.length co53) := (Zk BK228.out 1).trans rfl
              have hfs63 := Zl BK228.out 1
              have hns63_0 := NB226_228.out
              have hns63_1 := NB227_228.out
              have hms63_0 := NB228_226.out
              have hms63_1 := NB228_227.out
              refine skip_ (w1 := ?_) (by rfl) rfl ?_ ?_
              rotate_left
              ·go_simp
               rfl
              refine hK.out _ _ ?_
              clear hK K
              refine done_ (done_of HT_.out (by kernel_rfl)) ?_
              try go_wp2
              go_roundg kj11
              case measure => have := HK1.out; have := HJ11.out; omega
              case rel => exact ⟨(true), (wrap64 (x10_1 + 1)), (y253), (.slice Ao62 y253.length co62), (by first | rfl | (simp; done) | (simp [*]; done)), (by first | rfl | (simp; done) | (simp [*]; done)), H', ⟨by have := HK1.out; have := HJ11.out; omega⟩, ⟨by (with_reducible repeat (first | apply Zn | apply Zm | apply Zo)); exact Zy (ZB (p := ⟨gb228, 1, none⟩) (ZJ HO255.out BK228.out (by decide)) (fun _ hk => hk.2) (.slice Ao62 y253.length co62)) (fun _ hk => trivial)⟩, ⟨by (with_reducible repeat (first | refine Zg ?_ _ | refine Zh ?_ | refine Zf ?_ _)); refine ZP ?_ NB226_228.out _; (with_reducible repeat (first | refine Zg ?_ _ | refine Zh ?_ | refine Zf ?_ _)); exact BK226.out⟩, ⟨by (with_reducible repeat (first | refine Zg ?_ _ | refine Zh ?_ | refine Zf ?_ _)); refine ZP ?_ NB227_228.out _; (with_reducible repeat (first | refine Zg ?_ _ | refine Zh ?_ | refine Zf ?_ _)); exact BK227.out⟩, ⟨by (with_reducible repeat (first | refine Zg ?_ _ | refine Zh ?_ | refine Zf ?_ _)); refine blk_put (cs := #[.int .i64 a0_0, .slice Ao53 y244.length co53]) ?_ 1 _ rfl; (with_reducible repeat (first | refine Zg ?_ _ | refine Zh ?_ | refine Zf ?_ _)); exact BK228.out⟩, ⟨by repeat (first | (with_reducible first | exact HB.out | apply Zj | apply Ze | apply Zi | refine Zd ?_ GE226.out | refine Zd ?_ GE227.out | refine Zd ?_ GE228.out) | exact HB.out)⟩⟩
             ·rw [if_neg c43] at H
              exact absurd H (by simp)
            ·rw [if_neg c42] at H
             exact absurd H (by simp)
           ·rw [if_neg c41] at H
            exact absurd H (by simp)
          ·rw [if_neg c40] at H
           have c40b0 : decide (a1 < (rd (rd_L1 l0_1 x10_1) 0)) = false := decide_eq_false c40
           clear c40
           by_cases c64 : (rd (rd_L1 l0_1 x10_1) 0) = a1
           ·rw [if_pos c64] at H
            have c64b0 : ((rd (rd_L1 l0_1 x10_1) 0) == a1) = true := beq_iff_eq.mpr c64
            have c64b1 : ((rd (rd_L1 l0_1 x10_1) 0) != a1) = false := bne_eq_false_iff_eq.mpr c64
            clear c64
            by_cases c65 : 1 < ((rd_L1 l0_1 x10_1).length : Int)
            ·rw [if_pos c65] at H
             have c65b0 : decide (1 < ((rd_L1 l0_1 x10_1).length : Int)) = true := decide_eq_true c65
             have c65b1 : decide (1 < (rd_L1 l0_1 x10_1).length) = true := decide_eq_true (by omega)
             clear c65
             by_cases c66 : (rd (rd_L1 l0_1 x10_1) 1) > a2
             ·rw [if_pos c66] at H
              have c66b0 : decide (a2 < (rd (rd_L1 l0_1 x10_1) 1)) = true := decide_eq_true c66
              clear c66
              obtain ⟨y258, hy258⟩ : ∃ y_ : List Int, y_ = (([a1, a2] : List Int)) := ⟨_, rfl⟩
              replace H : (if x229001_1.length < 5864062014805 then ((some (x229001_1 ++ [y258] : List (List Int))).bind fun y261 => ((some (([] : List Int) : List Int)).bind fun y264 => (if y264.length + (rd_L1 l0_1 x10_1).length < 17592186044416 then (if y261.length < 5864062014805 then (spec_AddAttack.l0 kj11 a1 a2 true (wrap64 (x10_1 + 1)) a0_0 l0_1 a0_0 (y261 ++ [(y264 ++ (rd_L1 l0_1 x10_1))])) else (none)) else (none)))) else (none)) = some (r1, r2, r3) := by first | (rw [hy258]; with_reducible exact H) | (have H2_ := (Option.bind_some _ _).symm.trans H; rw [hy258]; with_reducible exact H2_) | (have H2_ := (Option.bind_some _ _).symm.trans H; with_reducible exact H2_) | with_reducible exact H | (rw [hy258]; exact H) | exact H
              have Ny258 := Aside0.mk hy258
              clear hy258
              by_cases c67 : x229001_1.length < 5864062014805
              ·rw [if_pos c67] at H
               have LMc67 := Aside0.mk c67
               clear c67
               obtain ⟨y261, hy261⟩ : ∃ y_ : List (List Int), y_ = (x229001_1 ++ [y258]) := ⟨_, rfl⟩
               replace H : ((some (([] : List Int) : List Int)).bind fun y264 => (if y264.length + (rd_L1 l0_1 x10_1).length < 17592186044416 then (if y261.length < 5864062014805 then (spec_AddAttack.l0 kj11 a1 a2 true (wrap64 (x10_1 + 1)) a0_0 l0_1 a0_0 (y261 ++ [(y264 ++ (rd_L1 l0_1 x10_1))])) else (none)) else (none))) = some (r1, r2, r3) := by first | (rw [hy261]; with_reducible exact H) | (have H2_ := (Option.bind_some _ _).symm.trans H; rw [hy261]; with_reducible exact H2_) | (have H2_ := (Option.bind_some _ _).symm.trans H; with_reducible exact H2_) | with_reducible exact H | (rw [hy261]; exact H) | exact H
               have Ny261 := Aside0.mk hy261
               clear hy261
               obtain ⟨y264, hy264⟩ : ∃ y_ : List Int, y_ = (([] : List Int)) := ⟨_, rfl⟩
               replace H : (if y264.length + (rd_L1 l0_1 x10_1).length < 17592186044416 then (if y261.length < 5864062014805 then (spec_AddAttack.l0 kj11 a1 a2 true (wrap64 (x10_1 + 1)) a0_0 l0_1 a0_0 (y261 ++ [(y264 ++ (rd_L1 l0_1 x10_1))])) else (none)) else (none)) = some (r1, r2, r3) := by first | (rw [hy264]; with_reducible exact H) | (have H2_ := (Option.bind_some _ _).symm.trans H; rw [hy264]; with_reducible exact H2_) | (have H2_ := (Option.bind_some _ _).symm.trans H; with_reducible exact H2_) | with_reducible exact H | (rw [hy264]; exact H) | exact H
               have Ny264 := Aside0.mk hy264
               clear hy264
               by_cases c68 : y264.length + (rd_L1 l0_1 x10_1).length < 17592186044416
               ·rw [if_pos c68] at H
                have LMc68 := Aside0.mk c68
                clear c68
                obtain ⟨y267, hy267⟩ : ∃ y_ : List Int, y_ = (y264 ++ (rd_L1 l0_1 x10_1)) := ⟨_, rfl⟩
                replace H : (if y261.length < 5864062014805 then (spec_AddAttack.l0 kj11 a1 a2 true (wrap64 (x10_1 + 1)) a0_0 l0_1 a0_0 (y261 ++ [y267])) else (none)) = some (r1, r2, r3) := by first | (rw [hy267]; with_reducible exact H) | (have H2_ := (Option.bind_some _ _).symm.trans H; rw [hy267]; with_reducible exact H2_) | (have H2_ := (Option.bind_some _ _).symm.trans H; with_reducible exact H2_) | with_reducible exact H | (rw [hy267]; exact H) | exact H
                have Ny267 := Aside0.mk hy267
                clear hy267
                by_cases c69 : y261.length < 5864062014805
                ·rw [if_pos c69] at H
                 have LMc69 := Aside0.mk c69
                 clear c69
                 obtain ⟨y270, hy270⟩ : ∃ y_ : List (List Int), y_ = (y261 ++ [y267]) := ⟨_, rfl⟩
                 replace H : (spec_AddAttack.l0 kj11 a1 a2 true (wrap64 (x10_1 + 1)) a0_0 l0_1 a0_0 y270) = some (r1, r2, r3) := by first | (rw [hy270]; with_reducible exact H) | (have H2_ := (Option.bind_some _ _).symm.trans H; rw [hy270]; with_reducible exact H2_) | (have H2_ := (Option.bind_some _ _).symm.trans H; with_reducible exact H2_) | with_reducible exact H | (rw [hy270]; exact H) | exact H
                 have Ny270 := Aside0.mk hy270
                 clear hy270
                 have H' := Aside0.mk H
                 clear H
                 have hnb70 := NB226_227.out
                 have hnc70 := NB227_226.out
                 have hnb71 := NB226_228.out
                 have hnc71 := NB228_226.out
                 have hcz72_0 : wc.cell? ⟨gb226, 0, none⟩ = some (.int .i64 a0_0) := (Zk BK226.out 0).trans rfl
                 have hcz72_1 : wc.cell? ⟨gb226, 1, none⟩ = some (.slice A0_1 l0_1.length c0_1) := (Zk BK226.out 1).trans rfl
                 have hfz72_0 := Zl BK226.out 0
                 have hfz72_1 := Zl BK226.out 1
                 have p230 : 0 ≤ (x10_1 : Int) := of_decide_eq_true (by first | (with_reducible assumption) | assumption)
                 have q230 : x10_1 < (l0_1.length : Int) := of_decide_eq_true (by first | (with_reducible assumption) | assumption)
                 obtain ⟨ad230, A230_0, c230_0, e230, hx230_0, hl230_0, hi230_0⟩ := at_L1 HR0_1.out x10_1 p230 q230
                 cases e230
                 replace hx230_0 := (HB.out.cell (World.block_lt_of_cell? w _ hx230_0)).trans hx230_0
                 have HR230_0 := Aside0.mk hi230_0
                 have HC230_0 := Aside0.mk hl230_0
                 clear hi230_0 hl230_0
                 replace p230 := eq_true p230
                 replace q230 := eq_true q230
                 have p240 : 0 ≤ (0 : Int) := (by omega)
                 have q240 : 0 < ((rd_L1 l0_1 x10_1).length : Int) := of_decide_eq_true (by first | (with_reducible assumption) | assumption)
                 obtain ⟨ad240, e240, hx240_0⟩ := ZI HR230_0.out 0 p240 q240
                 cases e240
                 have qi240 : (0 < (rd_L1 l0_1 x10_1).length) = True := eq_true (by omega)
                 (try rw [show ((0 : Int)).toNat = 0 from rfl] at hx240_0)
                 (try rw [Addr.add_zero'] at hx240_0)
                 replace hx240_0 := (HB.out.cell (World.block_lt_of_cell? w _ hx240_0)).trans hx240_0
                 replace p240 := eq_true p240
                 replace q240 := eq_true q240
                 have p256 : 0 ≤ (0 : Int) := (by omega)
                 have q256 : 0 < ((rd_L1 l0_1 x10_1).length : Int) := of_decide_eq_true (by first | (with_reducible assumption) | assumption)
                 obtain ⟨ad256, e256, hx256_0⟩ := ZI HR230_0.out 0 p256 q256
                 obtain rfl : ad240 = ad256 := (by injection e256)
                 have qi256 : (0 < (rd_L1 l0_1 x10_1).length) = True := eq_true (by omega)
                 (try rw [show ((0 : Int)).toNat = 0 from rfl] at hx256_0)
                 (try rw [Addr.add_zero'] at hx256_0)
                 replace hx256_0 := (HB.out.cell (World.block_lt_of_cell? w _ hx256_0)).trans hx256_0
                 replace p256 := eq_true p256
                 replace q256 := eq_true q256
                 have p257 : 0 ≤ (1 : Int) := (by omega)
                 have q257 : 1 < ((rd_L1 l0_1 x10_1).length : Int) := of_decide_eq_true (by first | (with_reducible assumption) | assumption)
                 obtain ⟨ad257, e257, hx257_0⟩ := ZI HR230_0.out 1 p257 q257
                 obtain rfl : ad240 = ad257 := (by injection e257)
                 (try simp only [show (1 : Int).toNat = 1 from rfl, Nat.reduceMul, Nat.reduceEqDiff, Go.Addr.add, ↓reduceIte] at hx257_0)
                 have qi257 : (1 < (rd_L1 l0_1 x10_1).length) = True := eq_true (by omega)
                 (try rw [show ((1 : Int)).toNat = 1 from rfl] at hx257_0)
                 replace hx257_0 := (HB.out.cell (World.block_lt_of_cell? w _ hx257_0)).trans hx257_0
                 replace p257 := eq_true p257
                 replace q257 := eq_true q257
                 have hnb73 := NB228_227.out
                 have hnc73 := NB227_228.out
                 have hcz74_0 : wc.cell? ⟨gb228, 0, none⟩ = some (.int .i64 a0_0) := (Zk BK228.out 0).trans rfl
                 have hcz74_1 : wc.cell? ⟨gb228, 1, none⟩ = some (u229001) := (Zk BK228.out 1).trans rfl
                 have hfz74_0 := Zl BK228.out 0
                 have hfz74_1 := Zl BK228.out 1
                 try go_wp2_with (first | ((with_reducible refine gate_dst (N := 58) rfl ?_); refine Kd.R_lit (Kd.int .i64) _ 3 ?hg (N := 58) ?hd (xs := ([a1, a2] : List Int)) (inner := [.int .i64 a1, .int .i64 a2]) (ok := fun _ => True) (okp := fun _ => True) ?hr ?hp (fun _ hk => hk) trivial (Below.refl _ _) (Nat.le_refl _) (by simp) ?_; (case hd => rfl); (case hg => rfl); (case hr => first | (go_simp; done) | (go_simp; rfl)); (case hp => exact (Reps.one (show Kd.M (Kd.int .i64) _ _ _ a1 [.int .i64 a1] from rfl) (Reps.one (show Kd.M (Kd.int .i64) _ _ _ a2 [.int .i64 a2] from rfl) (Reps.none _ _)))); intro v259 w75 ho76 hb hg_ hnew_; clear hg_ hnew_; (first | rw [← Ny258.out] at ho76 | (simp only [Int.reduceToNat] at ho76; rw [← Ny258.out] at ho76)); have n0_ := Aside0.mk (ZK (by (with_reducible repeat (first | apply Zn | apply Zm | apply Zo)); exact HO_229001.out) (Kd.R_base ho76) hb); have n1_ := Aside0.mk (Kd.R_lower ho76 (Zs (by repeat (first | (with_reducible first | exact HB.out | apply Zj | apply Ze | apply Zi | refine Zd ?_ GE226.out | refine Zd ?_ GE227.out | refine Zd ?_ GE228.out) | exact HB.out)))); have n2_ := Aside0.mk (Zp (g := gb226) (o := .cells #[.int .i64 a0_0, .slice (some ad230) l0_1.length c0_1] 27 (0, 0)) (by (with_reducible repeat (first | refine Zg ?_ _ | refine Zh ?_ | refine Zf ?_ _)); exact BK226.out) hb); have n3_ := Aside0.mk (Zp (g := gb227) (o := .cells #[.int .i64 0, .slice none 0 0] 27 (0, 0)) (by (with_reducible repeat (first | refine Zg ?_ _ | refine Zh ?_ | refine Zf ?_ _)); exact BK227.out) hb); have n4_ := Aside0.mk (Zp (g := gb228) (o := .cells #[.int .i64 a0_0, u229001] 27 (0, 0)) (by (with_reducible repeat (first | refine Zg ?_ _ | refine Zh ?_ | refine Zf ?_ _)); exact BK228.out) hb); have n5_ := Aside0.mk (Zu (by repeat (first | (with_reducible first | exact HB.out | apply Zj | apply Ze | apply Zi | refine Zd ?_ GE226.out | refine Zd ?_ GE227.out | refine Zd ?_ GE228.out) | exact HB.out)) hb); clear HO_229001; clear BK226; clear BK227; clear BK228; clear HB; have HO_229001 := n0_; have HO260 := n1_; have BK226 := n2_; have BK227 := n3_; have BK228 := n4_; have HB := n5_; clear n0_ n1_ n2_ n3_ n4_ n5_; clear hb ho76; obtain ⟨Ao78, co78, eo78⟩ := Kd.R_slice HO260.out; subst eo78) | ((with_reducible refine gate_builtin (b := .append) (xs := #[.tmp 55, .tmp 59]) rfl ?_); at_builtin; refine Kd.S_append (Kd.slice 3 (Kd.int .i64)) (w0 := w) w.heap.size rfl (.tmp 55) (.tmp 59) 22 31 (.slice none 0 0) 24 rfl Try.underlying22 info31 rfl (by decide) (by omega) u229001 x229001_1 y258 [.slice Ao78 y258.length co78] (fun _ => True) (fun k_ => some k_ = (.slice Ao78 y258.length co78 : Value).ownBlock) rfl rfl ?aP (fun k_ hk_ => ((ZR (ok' := fun k_ => ((fun _ => True)) k_ ∧ some k_ ≠ (u229001 : Value).ownBlock) (Kd.R_apart' (HO260.out) (Kd.S_typed HO_229001.out) (by decide)) (fun k_ hk => ⟨trivial, hk.2⟩))).1 k_ hk_.symm) ?aF ?aO ?aB ?aS ?aL ?_; (case aP => exact Kd.M_row (ZR (Kd.R_tight rfl (ZR (ok' := fun k_ => ((fun _ => True)) k_ ∧ some k_ ≠ (u229001 : Value).ownBlock) (Kd.R_apart' (HO260.out) (Kd.S_typed HO_229001.out) (by decide)) (fun k_ hk => ⟨trivial, hk.2⟩))) (fun _ h_ => h_))); (case aB => exact (by repeat (first | (with_reducible first | exact HB.out | apply Zj | apply Ze | apply Zi | refine Zd ?_ GE226.out | refine Zd ?_ GE227.out | refine Zd ?_ GE228.out) | exact HB.out))); (case aF => exact (fun _ _ => trivial)); (case aO => exact (by (with_reducible repeat (first | apply Zn | apply Zm | apply Zo)); exact Zy HO_229001.out (fun k_ hk => ⟨trivial, fun e_ => hk.2 e_⟩))); (case aS => exact (Zs (by repeat (first | (with_reducible first | exact HB.out | apply Zj | apply Ze | apply Zi | refine Zd ?_ GE226.out | refine Zd ?_ GE227.out | refine Zd ?_ GE228.out) | exact HB.out)))); (case aL => have := LMc67.out; omega); intro v262 w77 ho hb hg hat; rw [← Ny261.out] at ho; have n0_ := Aside0.mk (ZS (g := gb226) (o := .cells #[.int .i64 a0_0, .slice (some ad230) l0_1.length c0_1] 27 (0, 0)) (by (with_reducible repeat (first | refine Zg ?_ _ | refine Zh ?_ | refine Zf ?_ _)); exact BK226.out) hg (Kd.S_ne HO_229001.out BK226.out (by decide))); have n1_ := Aside0.mk (ZS (g := gb227) (o := .cells #[.int .i64 0, .slice none 0 0] 27 (0, 0)) (by (with_reducible repeat (first | refine Zg ?_ _ | refine Zh ?_ | refine Zf ?_ _)); exact BK227.out) hg (Kd.S_ne HO_229001.out BK227.out (by decide))); have n2_ := Aside0.mk (ZS (g := gb228) (o := .cells #[.int .i64 a0_0, u229001] 27 (0, 0)) (by (with_reducible repeat (first | refine Zg ?_ _ | refine Zh ?_ | refine Zf ?_ _)); exact BK228.out) hg (Kd.S_ne HO_229001.out BK228.out (by decide))); have n3_ := Aside0.mk (hb); have n4_ := Aside0.mk (ho); clear BK226; clear BK227; clear BK228; clear HB; clear HO_229001; clear HO260; have BK226 := n0_; have BK227 := n1_; have BK228 := n2_; have HB := n3_; have HO263 := n4_; clear n0_ n1_ n2_ n3_ n4_; clear ho hb hg hat; obtain ⟨Ao79, co79, eo79⟩ := Kd.S_slice HO263.out; subst eo79; have hcz80_0 : w77.cell? ⟨gb228, 0, none⟩ = some (.int .i64 a0_0) := (Zk BK228.out 0).trans rfl; have hcz80_1 : w77.cell? ⟨gb228, 1, none⟩ = some (u229001) := (Zk BK228.out 1).trans rfl; have hfz80_0 := Zl BK228.out 0; have hfz80_1 := Zl BK228.out 1))
                 have n0_ : Aside0 (Kd.S (Kd.slice 3 (Kd.int .i64)) 31 (w77.setCell ⟨gb228, 1, none⟩ (.slice Ao79 y261.length co79)) w.heap.size (fun _ => True) (.slice Ao79 y261.length co79) y261) := ⟨by (with_reducible repeat (first | apply Zn | apply Zm | apply Zo)); exact Zy (ZB (p := ⟨gb228, 1, none⟩) (ZJ HO263.out BK228.out (by decide)) (fun _ hk => hk.2) (.slice Ao79 y261.length co79)) (fun _ hk => trivial)⟩
                 have n1_ : Aside0 ((w77.setCell ⟨gb228, 1, none⟩ (.slice Ao79 y261.length co79)).heap[gb226]? = some (.cells #[.int .i64 a0_0, .slice (some ad230) l0_1.length c0_1] 27 (0, 0))) := ⟨by (with_reducible repeat (first | refine Zg ?_ _ | refine Zh ?_ | refine Zf ?_ _)); refine ZP ?_ NB226_228.out _; (with_reducible repeat (first | refine Zg ?_ _ | refine Zh ?_ | refine Zf ?_ _)); exact BK226.out⟩
                 have n2_ : Aside0 ((w77.setCell ⟨gb228, 1, none⟩ (.slice Ao79 y261.length co79)).heap[gb227]? = some (.cells #[.int .i64 0, .slice none 0 0] 27 (0, 0))) := ⟨by (with_reducible repeat (first | refine Zg ?_ _ | refine Zh ?_ | refine Zf ?_ _)); refine ZP ?_ NB227_228.out _; (with_reducible repeat (first | refine Zg ?_ _ | refine Zh ?_ | refine Zf ?_ _)); exact BK227.out⟩
                 have n3_ : Aside0 ((w77.setCell ⟨gb228, 1, none⟩ (.slice Ao79 y261.length co79)).heap[gb228]? = some (.cells #[.int .i64 a0_0, .slice Ao79 y261.length co79] 27 (0, 0))) := ⟨by (with_reducible repeat (first | refine Zg ?_ _ | refine Zh ?_ | refine Zf ?_ _)); refine blk_put (cs := #[.int .i64 a0_0, u229001]) ?_ 1 _ rfl; (with_reducible repeat (first | refine Zg ?_ _ | refine Zh ?_ | refine Zf ?_ _)); exact BK228.out⟩
                 have n4_ : Aside0 (Below w.heap.size w (w77.setCell ⟨gb228, 1, none⟩ (.slice Ao79 y261.length co79))) := ⟨by repeat (first | (with_reducible first | exact HB.out | apply Zj | apply Ze | apply Zi | refine Zd ?_ GE226.out | refine Zd ?_ GE227.out | refine Zd ?_ GE228.out) | exact HB.out)⟩
                 (try clear HO263)
                 (try clear BK226)
                 (try clear BK227)
                 (try clear BK228)
                 (try clear HB)
                 generalize (w77.setCell ⟨gb228, 1, none⟩ (.slice Ao79 y261.length co79)) = w81 at n0_ n1_ n2_ n3_ n4_ ⊢
                 have HO263 := n0_
                 have BK226 := n1_
                 have BK227 := n2_
                 have BK228 := n3_
                 have HB := n4_
                 clear n0_ n1_ n2_ n3_ n4_
                 have n0_ := Aside0.mk (Zo HO263.out)
                 have n1_ := Aside0.mk (Zh BK226.out)
                 have n2_ := Aside0.mk (Zh BK227.out)
                 have n3_ := Aside0.mk (Zh BK228.out)
                 have n4_ := Aside0.mk (Zi HB.out)
                 clear HO263
                 clear BK226
                 clear BK227
                 clear BK228
                 clear HB
                 have HO263 := n0_
                 have BK226 := n1_
                 have BK227 := n2_
                 have BK228 := n3_
                 have HB := n4_
                 clear n0_ n1_ n2_ n3_ n4_
                 refine start_ (n := 9) (S := fun w' => w'.cell? ⟨gb228, 0, none⟩ = some (.int .i64 a0_0) ∧ w'.cell? ⟨gb228, 1, none⟩ = some (.slice Ao79 y261.length co79)) (ds := [8]) #[O,O,O,O,O,O,O,O,O] (by kernel_rfl) rfl rfl ⟨(Zk BK228.out 0).trans rfl, (Zk BK228.out 1).trans rfl⟩ (fun hHeld => ?_); refine with_tabW spec_AddAttack.tab10 spec_AddAttack.bits10 (fun HT_ HW_ => ?_)
                 generalize w81.drew = w82 at HO263 BK226 BK227 BK228 HB hHeld ⊢
                 refine Zx (i := 0) (N := some 62) (v := ?_) (a' := ?_) #[Y,O,O,O,O,O,O,O,O] rfl rfl (Zt HT_.out (by kernel_rfl)) (fun _ _ _ h => h) (Or.inl ⟨by rfl, ?_⟩) ?_ ?_
                 rotate_left
                 ·intro w'
                  go_simp
                  with_reducible rfl
                 rotate_left
                 ·simp only [Act.put, Za, Zb, Zc, Zq, Zr]
                  rfl
                 refine Zx (i := 3) (N := some 65) (v := ?_) (a' := ?_) #[Y,O,O,Y,O,O,O,O,O] rfl rfl (Zt HT_.out (by kernel_rfl)) (fun _ _ _ h => h) (Or.inl ⟨by rfl, ?_⟩) ?_ ?_
                 rotate_left
                 ·intro w'
                  go_simp
                  with_reducible rfl
                 rotate_left
                 ·simp only [Act.put, Za, Zb, Zc, Zq, Zr]
                  rfl
                 refine take_ (i := 1) (N := some 63) (v := ?_) (a' := ?_) #[Y,Y,O,Y,O,O,O,O,O] rfl rfl (take_ofW HT_.out HW_.out (by kernel_rfl)) (fun _ _ _ h => h) (Or.inl ⟨by rfl, ?_⟩) hHeld ?_ ?_
                 rotate_left
                 ·rintro w' ⟨s0, s1⟩
                  go_simp
                  with_reducible rfl
                 rotate_left
                 ·simp only [Act.put, Za, Zb, Zc, Zq, Zr]
                  rfl
                 refine one_ (i := 2) (N := some 64) #[Y,Y,Y,Y,O,O,O,O,O] rfl rfl (one_of HT_.out (by kernel_rfl)) (by decide) (fun K hK => ?_)
                 refine Kd.R_lit_step (Kd.int .i64) _ 3 ?hg (N := 64) ?hd (xs := ([] : List Int)) (inner := []) (ok := fun _ => True) (okp := fun _ => True) ?hr ?hp (fun _ hk => hk) trivial (Below.refl _ _) (Nat.le_refl _) (by simp) ?_; (case hd => rfl); (case hg => rfl); (case hr => first | (go_simp; done) | (go_simp; rfl)); (case hp => exact (Reps.none _ _))
                 intro v265 w83 ho84 hb hg_ hnew_
                 clear hg_ hnew_
                 (first | rw [← Ny264.out] at ho84 | (simp only [Int.reduceToNat] at ho84; rw [← Ny264.out] at ho84))
                 have n0_ := Aside0.mk (ZK (by (with_reducible repeat (first | apply Zn | apply Zm | apply Zo)); exact HO263.out) (Kd.R_base ho84) hb)
                 have n1_ := Aside0.mk (Kd.R_lower ho84 (Zs (by repeat (first | (with_reducible first | exact HB.out | apply Zj | apply Ze | apply Zi | refine Zd ?_ GE226.out | refine Zd ?_ GE227.out | refine Zd ?_ GE228.out) | exact HB.out))))
                 have n2_ := Aside0.mk (Zp (g := gb226) (o := .cells #[.int .i64 a0_0, .slice (some ad230) l0_1.length c0_1] 27 (0, 0)) (by (with_reducible repeat (first | refine Zg ?_ _ | refine Zh ?_ | refine Zf ?_ _)); exact BK226.out) hb)
                 have n3_ := Aside0.mk (Zp (g := gb227) (o := .cells #[.int .i64 0, .slice none 0 0] 27 (0, 0)) (by (with_reducible repeat (first | refine Zg ?_ _ | refine Zh ?_ | refine Zf ?_ _)); exact BK227.out) hb)
                 have n4_ := Aside0.mk (Zp (g := gb228) (o := .cells #[.int .i64 a0_0, .slice Ao79 y261.length co79] 27 (0, 0)) (by (with_reducible repeat (first | refine Zg ?_ _ | refine Zh ?_ | refine Zf ?_ _)); exact BK228.out) hb)
                 have n5_ := Aside0.mk (Zu (by repeat (first | (with_reducible first | exact HB.out | apply Zj | apply Ze | apply Zi | refine Zd ?_ GE226.out | refine Zd ?_ GE227.out | refine Zd ?_ GE228.out) | exact HB.out)) hb)
                 clear HO263
                 clear BK226
                 clear BK227
                 clear BK228
                 clear HB
                 have HO263 := n0_
                 have HO266 := n1_
                 have BK226 := n2_
                 have BK227 := n3_
                 have BK228 := n4_
                 have HB := n5_
                 clear n0_ n1_ n2_ n3_ n4_ n5_
                 clear hb ho84
                 refine hK.out _ _ ⟨(Zk BK228.out 0).trans rfl, (Zk BK228.out 1).trans rfl⟩ (fun hHeld => ?_)
                 clear hK K
                 refine norm_ (a' := ?_) ?_ ?_
                 rotate_left
                 ·show Act.put _ (some 64) _ = _
                  simp only [Act.put, Za, Zb, Zc, Zq, Zr]
                  rfl
                 refine one_ (i := 4) (N := some 66) #[Y,Y,Y,Y,Y,O,O,O,O] rfl rfl (one_of HT_.out (by kernel_rfl)) (by decide) (fun K hK => ?_)
                 refine Kd.R_append_rows_step (Kd.int .i64) (w0 := w) w.heap.size (by rfl) (.tmp 64) (.tmp 65) 31 3 (.int .i64 0) 8 rfl Try.underlying31 info3 rfl (by decide) (by omega) v265 y264 (rd_L1 l0_1 x10_1) _ _ _ (fun _ => True) (fun _ => False) rfl rfl ?aO ?aR (fun _ _ h => h) (fun _ h => h.elim) ?aF ?aB ?aS ?aL ?_
                 (case aR => repeat (first | exact (ZG HR230_0.out HB.out) | (with_reducible refine Zw ?_ _) | (with_reducible refine Zv ?_ _) | (with_reducible refine Zz ?_)))
                 (case aB => exact (by repeat (first | (with_reducible first | exact HB.out | apply Zj | apply Ze | apply Zi | refine Zd ?_ GE226.out | refine Zd ?_ GE227.out | refine Zd ?_ GE228.out) | exact HB.out)))
                 (case aF => exact (fun _ _ => trivial))
                 (case aO => exact (by (with_reducible repeat (first | apply ZO | apply ZN | apply ZQ)); exact HO266.out))
                 (case aS => exact (Zs (by repeat (first | (with_reducible first | exact HB.out | apply Zj | apply Ze | apply Zi | refine Zd ?_ GE226.out | refine Zd ?_ GE227.out | refine Zd ?_ GE228.out) | exact HB.out))))
                 (case aL => have := LMc68.out; omega)
                 intro v268 w85 ho hb hg hat
                 rw [← Ny267.out] at ho
                 have n0_ := Aside0.mk (ZS (g := gb226) (o := .cells #[.int .i64 a0_0, .slice (some ad230) l0_1.length c0_1] 27 (0, 0)) (by (with_reducible repeat (first | refine Zg ?_ _ | refine Zh ?_ | refine Zf ?_ _)); exact BK226.out) hg (Kd.R_ne HO266.out BK226.out (by decide)))
                 have n1_ := Aside0.mk (ZS (g := gb227) (o := .cells #[.int .i64 0, .slice none 0 0] 27 (0, 0)) (by (with_reducible repeat (first | refine Zg ?_ _ | refine Zh ?_ | refine Zf ?_ _)); exact BK227.out) hg (Kd.R_ne HO266.out BK227.out (by decide)))
                 have n2_ := Aside0.mk (ZS (g := gb228) (o := .cells #[.int .i64 a0_0, .slice Ao79 y261.length co79] 27 (0, 0)) (by (with_reducible repeat (first | refine Zg ?_ _ | refine Zh ?_ | refine Zf ?_ _)); exact BK228.out) hg (Kd.R_ne HO266.out BK228.out (by decide)))
                 have n3_ := Aside0.mk (Kd.S_after (ok := (fun _ => True)) (by (with_reducible repeat (first | apply Zn | apply Zm | apply Zo)); exact HO263.out) hg hat)
                 have n4_ := Aside0.mk (hb)
                 have n5_ := Aside0.mk (ho)
                 clear BK226
                 clear BK227
                 clear BK228
                 clear HO263
                 clear HB
                 clear HO266
                 have BK226 := n0_
                 have BK227 := n1_
                 have BK228 := n2_
                 have HO263 := n3_
                 have HB := n4_
                 have HO269 := n5_
                 clear n0_ n1_ n2_ n3_ n4_ n5_
                 clear ho hb hg hat
                 obtain ⟨Ao87, co87, eo87⟩ := Kd.R_slice HO269.out
                 (first | subst eo87 | (injection eo87 with f1_ f2_ f3_; have f4_ := f1_.symm; have f5_ := f3_.symm; clear f1_ f2_ f3_; subst f4_; subst f5_))
                 refine hK.out _ _ ⟨(Zk BK228.out 0).trans rfl, (Zk BK228.out 1).trans rfl⟩ (fun hHeld => ?_)
                 clear hK K
                 refine norm_ (a' := ?_) ?_ ?_
                 rotate_left
                 ·show Act.put _ (some 66) _ = _
                  simp only [Act.put, Za, Zb, Zc, Zq, Zr]
                  rfl
                 refine one_ (i := 5) (N := some 67) #[Y,Y,Y,Y,Y,Y,O,O,O] rfl rfl (one_of HT_.out (by kernel_rfl)) (by decide) (fun K hK => ?_)
                 refine value_ (w1 := ?_) (v := ?_) (by rfl) rfl ?_ ?_
                 rotate_left 2
                 ·go_simp
                  constructor
                  ·rfl
                  ·rfl
                 refine hK.out _ _ ⟨(Zk (Zf BK228.out _) 0).trans rfl, (Zk (Zf BK228.out _) 1).trans rfl⟩ (fun hHeld => ?_)
                 clear hK K
                 refine norm_ (a' := ?_) ?_ ?_
                 rotate_left
                 ·show Act.put _ (some 67) _ = _
                  simp only [Act.put, Za, Zb, Zc, Zq, Zr]
                  rfl
                 refine one_ (i := 6) (N := some 68) #[Y,Y,Y,Y,Y,Y,Y,O,O] rfl rfl (one_of HT_.out (by kernel_rfl)) (by decide) (fun K hK => ?_)
                 refine Kd.S_append_step (Kd.slice 3 (Kd.int .i64)) (w0 := w) w.heap.size (by rfl) (.tmp 63) (.tmp 67) 22 31 (.slice none 0 0) 24 rfl Try.underlying22 info31 rfl (by decide) (by omega) (.slice Ao79 y261.length co79) y261 y267 [.slice Ao87 y267.length co87] (fun _ => True) (fun k_ => some k_ = (.slice Ao87 y267.length co87 : Value).ownBlock) rfl rfl ?aP (fun k_ hk_ => ((ZR (ok' := fun k_ => ((fun _ => True)) k_ ∧ some k_ ≠ (.slice Ao79 y261.length co79 : Value).ownBlock) (Kd.R_apart' (HO269.out) (Kd.S_typed HO263.out) (by decide)) (fun k_ hk => ⟨trivial, hk.2⟩))).1 k_ hk_.symm) ?aF ?aO ?aB ?aS ?aL ?_
                 (case aP => exact Kd.M_row (ZR (Kd.R_tight rfl (ZR (ok' := fun k_ => ((fun _ => True)) k_ ∧ some k_ ≠ (.slice Ao79 y261.length co79 : Value).ownBlock) (Kd.R_apart' (HO269.out) (Kd.S_typed HO263.out) (by decide)) (fun k_ hk => ⟨trivial, hk.2⟩))) (fun _ h_ => h_)))
                 (case aB => exact (by repeat (first | (with_reducible first | exact HB.out | apply Zj | apply Ze | apply Zi | refine Zd ?_ GE226.out | refine Zd ?_ GE227.out | refine Zd ?_ GE228.out) | exact HB.out)))
                 (case aF => exact (fun _ _ => trivial))
                 (case aO => exact (by (with_reducible repeat (first | apply Zn | apply Zm | apply Zo)); exact Zy HO263.out (fun k_ hk => ⟨trivial, fun e_ => hk.2 e_⟩)))
                 (case aS => exact (Zs (by repeat (first | (with_reducible first | exact HB.out | apply Zj | apply Ze | apply Zi | refine Zd ?_ GE226.out | refine Zd ?_ GE227.out | refine Zd ?_ GE228.out) | exact HB.out))))
                 (case aL => have := LMc69.out; omega)
                 intro v271 w86 ho hb hg hat
                 rw [← Ny270.out] at ho
                 have n0_ := Aside0.mk (ZS (g := gb226) (o := .cells #[.int .i64 a0_0, .slice (some ad230) l0_1.length c0_1] 27 (0, 0)) (by (with_reducible repeat (first | refine Zg ?_ _ | refine Zh ?_ | refine Zf ?_ _)); exact BK226.out) hg (Kd.S_ne HO263.out BK226.out (by decide)))
                 have n1_ := Aside0.mk (ZS (g := gb227) (o := .cells #[.int .i64 0, .slice none 0 0] 27 (0, 0)) (by (with_reducible repeat (first | refine Zg ?_ _ | refine Zh ?_ | refine Zf ?_ _)); exact BK227.out) hg (Kd.S_ne HO263.out BK227.out (by decide)))
                 have n2_ := Aside0.mk (ZS (g := gb228) (o := .cells #[.int .i64 a0_0, .slice Ao79 y261.length co79] 27 (0, 0)) (by (with_reducible repeat (first | refine Zg ?_ _ | refine Zh ?_ | refine Zf ?_ _)); exact BK228.out) hg (Kd.S_ne HO263.out BK228.out (by decide)))
                 have n3_ := Aside0.mk (hb)
                 have n4_ := Aside0.mk (ho)
                 clear BK226
                 clear BK227
                 clear BK228
                 clear HB
                 clear HO263
                 clear HO269
                 have BK226 := n0_
                 have BK227 := n1_
                 have BK228 := n2_
                 have HB := n3_
                 have HO272 := n4_
                 clear n0_ n1_ n2_ n3_ n4_
                 clear ho hb hg hat
                 obtain ⟨Ao88, co88, eo88⟩ := Kd.S_slice HO272.out
                 (first | subst eo88 | (injection eo88 with f1_ f2_ f3_; have f4_ := f1_.symm; have f5_ := f3_.symm; clear f1_ f2_ f3_; subst f4_; subst f5_))
                 refine hK.out _ _ ⟨(Zk BK228.out 0).trans rfl, (Zk BK228.out 1).trans rfl⟩ (fun hHeld => ?_)
                 clear hK K
                 refine norm_ (a' := ?_) ?_ ?_
                 rotate_left
                 ·show Act.put _ (some 68) _ = _
                  simp only [Act.put, Za, Zb, Zc, Zq, Zr]
                  rfl
                 refine Zx (i := 7) (N := some 69) (v := ?_) (a' := ?_) #[Y,Y,Y,Y,Y,Y,Y,Y,O] rfl rfl (Zt HT_.out (by kernel_rfl)) (fun _ _ _ h => h) (Or.inl ⟨by rfl, ?_⟩) ?_ ?_
                 rotate_left
                 ·intro w'
                  go_simp
                  with_reducible rfl
                 rotate_left
                 ·simp only [Act.put, Za, Zb, Zc, Zq, Zr]
                  rfl
                 refine last_ (i := 8) (N := none) #[Y,Y,Y,Y,Y,Y,Y,Y,Y] rfl rfl (one_of HT_.out (by kernel_rfl)) (by decide) (fun K hK => ?_)
                 have hs89 : w86.cell? ⟨gb228, 1, none⟩ = some (.slice Ao79 y261.length co79) := (Zk BK228.out 1).trans rfl
                 have hfs89 := Zl BK228.out 1
                 have hns89_0 := NB226_228.out
                 have hns89_1 := NB227_228.out
                 have hms89_0 := NB228_226.out
                 have hms89_1 := NB228_227.out
                 refine skip_ (w1 := ?_) (by rfl) rfl ?_ ?_
                 rotate_left
                 ·go_simp
                  rfl
                 refine hK.out _ _ ?_
                 clear hK K
                 refine done_ (done_of HT_.out (by kernel_rfl)) ?_
                 try go_wp2
                 go_roundg kj11
                 case measure => have := HK1.out; have := HJ11.out; omega
                 case rel => exact ⟨(true), (wrap64 (x10_1 + 1)), (y270), (.slice Ao88 y270.length co88), (by first | rfl | (simp; done) | (simp [*]; done)), (by first | rfl | (simp; done) | (simp [*]; done)), H', ⟨by have := HK1.out; have := HJ11.out; omega⟩, ⟨by (with_reducible repeat (first | apply Zn | apply Zm | apply Zo)); exact Zy (ZB (p := ⟨gb228, 1, none⟩) (ZJ HO272.out BK228.out (by decide)) (fun _ hk => hk.2) (.slice Ao88 y270.length co88)) (fun _ hk => trivial)⟩, ⟨by (with_reducible repeat (first | refine Zg ?_ _ | refine Zh ?_ | refine Zf ?_ _)); refine ZP ?_ NB226_228.out _; (with_reducible repeat (first | refine Zg ?_ _ | refine Zh ?_ | refine Zf ?_ _)); exact BK226.out⟩, ⟨by (with_reducible repeat (first | refine Zg ?_ _ | refine Zh ?_ | refine Zf ?_ _)); refine ZP ?_ NB227_228.out _; (with_reducible repeat (first | refine Zg ?_ _ | refine Zh ?_ | refine Zf ?_ _)); exact BK227.out⟩, ⟨by (with_reducible repeat (first | refine Zg ?_ _ | refine Zh ?_ | refine Zf ?_ _)); refine blk_put (cs := #[.int .i64 a0_0, .slice Ao79 y261.length co79]) ?_ 1 _ rfl; (with_reducible repeat (first | refine Zg ?_ _ | refine Zh ?_ | refine Zf ?_ _)); exact BK228.out⟩, ⟨by repeat (first | (with_reducible first | exact HB.out | apply Zj | apply Ze | apply Zi | refine Zd ?_ GE226.out | refine Zd ?_ GE227.out | refine Zd ?_ GE228.out) | exact HB.out)⟩⟩
                ·rw [if_neg c69] at H
                 exact absurd H (by simp)
               ·rw [if_neg c68] at H
                exact absurd H (by simp)
              ·rw [if_neg c67] at H
               exact absurd H (by simp)
             ·rw [if_neg c66] at H
              have c66b0 : decide (a2 < (rd (rd_L1 l0_1 x10_1) 1)) = false := decide_eq_false c66
              clear c66
              obtain ⟨y273, hy273⟩ : ∃ y_ : List Int, y_ = (([] : List Int)) := ⟨_, rfl⟩
              replace H : (if y273.length + (rd_L1 l0_1 x10_1).length < 17592186044416 then (if x229001_1.length < 5864062014805 then (spec_AddAttack.l0 kj11 a1 a2 false (wrap64 (x10_1 + 1)) a0_0 l0_1 a0_0 (x229001_1 ++ [(y273 ++ (rd_L1 l0_1 x10_1))])) else (none)) else (none)) = some (r1, r2, r3) := by first | (rw [hy273]; with_reducible exact H) | (have H2_ := (Option.bind_some _ _).symm.trans H; rw [hy273]; with_reducible exact H2_) | (have H2_ := (Option.bind_some _ _).symm.trans H; with_reducible exact H2_) | with_reducible exact H | (rw [hy273]; exact H) | exact H
              have Ny273 := Aside0.mk hy273
              clear hy273
              by_cases c90 : y273.length + (rd_L1 l0_1 x10_1).length < 17592186044416
              ·rw [if_pos c90] at H
               have LMc90 := Aside0.mk c90
               clear c90
               obtain ⟨y276, hy276⟩ : ∃ y_ : List Int, y_ = (y273 ++ (rd_L1 l0_1 x10_1)) := ⟨_, rfl⟩
               replace H : (if x229001_1.length < 5864062014805 then (spec_AddAttack.l0 kj11 a1 a2 false (wrap64 (x10_1 + 1)) a0_0 l0_1 a0_0 (x229001_1 ++ [y276])) else (none)) = some (r1, r2, r3) := by first | (rw [hy276]; with_reducible exact H) | (have H2_ := (Option.bind_some _ _).symm.trans H; rw [hy276]; with_reducible exact H2_) | (have H2_ := (Option.bind_some _ _).symm.trans H; with_reducible exact H2_) | with_reducible exact H | (rw [hy276]; exact H) | exact H
               have Ny276 := Aside0.mk hy276
               clear hy276
               by_cases c91 : x229001_1.length < 5864062014805
               ·rw [if_pos c91] at H
                have LMc91 := Aside0.mk c91
                clear c91
                obtain ⟨y279, hy279⟩ : ∃ y_ : List (List Int), y_ = (x229001_1 ++ [y276]) := ⟨_, rfl⟩
                replace H : (spec_AddAttack.l0 kj11 a1 a2 false (wrap64 (x10_1 + 1)) a0_0 l0_1 a0_0 y279) = some (r1, r2, r3) := by first | (rw [hy279]; with_reducible exact H) | (have H2_ := (Option.bind_some _ _).symm.trans H; rw [hy279]; with_reducible exact H2_) | (have H2_ := (Option.bind_some _ _).symm.trans H; with_reducible exact H2_) | with_reducible exact H | (rw [hy279]; exact H) | exact H
                have Ny279 := Aside0.mk hy279
                clear hy279
                have H' := Aside0.mk H
                clear H
                have hnb92 := NB226_227.out
                have hnc92 := NB227_226.out
                have hnb93 := NB226_228.out
                have hnc93 := NB228_226.out
                have hcz94_0 : wc.cell? ⟨gb226, 0, none⟩ = some (.int .i64 a0_0) := (Zk BK226.out 0).trans rfl
                have hcz94_1 : wc.cell? ⟨gb226, 1, none⟩ = some (.slice A0_1 l0_1.length c0_1) := (Zk BK226.out 1).trans rfl
                have hfz94_0 := Zl BK226.out 0
                have hfz94_1 := Zl BK226.out 1
                have p230 : 0 ≤ (x10_1 : Int) := of_decide_eq_true (by first | (with_reducible assumption) | assumption)
                have q230 : x10_1 < (l0_1.length : Int) := of_decide_eq_true (by first | (with_reducible assumption) | assumption)
                obtain ⟨ad230, A230_0, c230_0, e230, hx230_0, hl230_0, hi230_0⟩ := at_L1 HR0_1.out x10_1 p230 q230
                cases e230
                replace hx230_0 := (HB.out.cell (World.block_lt_of_cell? w _ hx230_0)).trans hx230_0
                have HR230_0 := Aside0.mk hi230_0
                have HC230_0 := Aside0.mk hl230_0
                clear hi230_0 hl230_0
                replace p230 := eq_true p230
                replace q230 := eq_true q230
                have p240 : 0 ≤ (0 : Int) := (by omega)
                have q240 : 0 < ((rd_L1 l0_1 x10_1).length : Int) := of_decide_eq_true (by first | (with_reducible assumption) | assumption)
                obtain ⟨ad240, e240, hx240_0⟩ := ZI HR230_0.out 0 p240 q240
                cases e240
                have qi240 : (0 < (rd_L1 l0_1 x10_1).length) = True := eq_true (by omega)
                (try rw [show ((0 : Int)).toNat = 0 from rfl] at hx240_0)
                (try rw [Addr.add_zero'] at hx240_0)
                replace hx240_0 := (HB.out.cell (World.block_lt_of_cell? w _ hx240_0)).trans hx240_0
                replace p240 := eq_true p240
                replace q240 := eq_true q240
                have p256 : 0 ≤ (0 : Int) := (by omega)
                have q256 : 0 < ((rd_L1 l0_1 x10_1).length : Int) := of_decide_eq_true (by first | (with_reducible assumption) | assumption)
                obtain ⟨ad256, e256, hx256_0⟩ := ZI HR230_0.out 0 p256 q256
                obtain rfl : ad240 = ad256 := (by injection e256)
                have qi256 : (0 < (rd_L1 l0_1 x10_1).length) = True := eq_true (by omega)
                (try rw [show ((0 : Int)).toNat = 0 from rfl] at hx256_0)
                (try rw [Addr.add_zero'] at hx256_0)
                replace hx256_0 := (HB.out.cell (World.block_lt_of_cell? w _ hx256_0)).trans hx256_0
                replace p256 := eq_true p256
                replace q256 := eq_true q256
                have p257 : 0 ≤ (1 : Int) := (by omega)
                have q257 : 1 < ((rd_L1 l0_1 x10_1).length : Int) := of_decide_eq_true (by first | (with_reducible assumption) | assumption)
                obtain ⟨ad257, e257, hx257_0⟩ := ZI HR230_0.out 1 p257 q257
                obtain rfl : ad240 = ad257 := (by injection e257)
                (try simp only [show (1 : Int).toNat = 1 from rfl, Nat.reduceMul, Nat.reduceEqDiff, Go.Addr.add, ↓reduceIte] at hx257_0)
                have qi257 : (1 < (rd_L1 l0_1 x10_1).length) = True := eq_true (by omega)
                (try rw [show ((1 : Int)).toNat = 1 from rfl] at hx257_0)
                replace hx257_0 := (HB.out.cell (World.block_lt_of_cell? w _ hx257_0)).trans hx257_0
                replace p257 := eq_true p257
                replace q257 := eq_true q257
                try go_wp2
                have n0_ := Aside0.mk (Zo HO_229001.out)
                have n1_ := Aside0.mk (Zh BK226.out)
                have n2_ := Aside0.mk (Zh BK227.out)
                have n3_ := Aside0.mk (Zh BK228.out)
                have n4_ := Aside0.mk (Zi HB.out)
                clear HO_229001
                clear BK226
                clear BK227
                clear BK228
                clear HB
                have HO_229001 := n0_
                have BK226 := n1_
                have BK227 := n2_
                have BK228 := n3_
                have HB := n4_
                clear n0_ n1_ n2_ n3_ n4_
                refine start_ (n := 9) (S := fun w' => w'.cell? ⟨gb228, 0, none⟩ = some (.int .i64 a0_0) ∧ w'.cell? ⟨gb228, 1, none⟩ = some (u229001)) (ds := [8]) #[O,O,O,O,O,O,O,O,O] (by kernel_rfl) rfl rfl ⟨(Zk BK228.out 0).trans rfl, (Zk BK228.out 1).trans rfl⟩ (fun hHeld => ?_); refine with_tabW spec_AddAttack.tab10 spec_AddAttack.bits10 (fun HT_ HW_ => ?_)
                generalize wc.drew = w95 at HO_229001 BK226 BK227 BK228 HB hHeld ⊢
                refine Zx (i := 0) (N := some 62) (v := ?_) (a' := ?_) #[Y,O,O,O,O,O,O,O,O] rfl rfl (Zt HT_.out (by kernel_rfl)) (fun _ _ _ h => h) (Or.inl ⟨by rfl, ?_⟩) ?_ ?_
                rotate_left
                ·intro w'
                 go_simp
                 with_reducible rfl
                rotate_left
                ·simp only [Act.put, Za, Zb, Zc, Zq, Zr]
                 rfl
                refine Zx (i := 3) (N := some 65) (v := ?_) (a' := ?_) #[Y,O,O,Y,O,O,O,O,O] rfl rfl (Zt HT_.out (by kernel_rfl)) (fun _ _ _ h => h) (Or.inl ⟨by rfl, ?_⟩) ?_ ?_
                rotate_left
                ·intro w'
                 go_simp
                 with_reducible rfl
                rotate_left
                ·simp only [Act.put, Za, Zb, Zc, Zq, Zr]
                 rfl
                refine take_ (i := 1) (N := some 63) (v := ?_) (a' := ?_) #[Y,Y,O,Y,O,O,O,O,O] rfl rfl (take_ofW HT_.out HW_.out (by kernel_rfl)) (fun _ _ _ h => h) (Or.inl ⟨by rfl, ?_⟩) hHeld ?_ ?_
                rotate_left
                ·rintro w' ⟨s0, s1⟩
                 go_simp
                 with_reducible rfl
                rotate_left
                ·simp only [Act.put, Za, Zb, Zc, Zq, Zr]
                 rfl
                refine one_ (i := 2) (N := some 64) #[Y,Y,Y,Y,O,O,O,O,O] rfl rfl (one_of HT_.out (by kernel_rfl)) (by decide) (fun K hK => ?_)
                refine Kd.R_lit_step (Kd.int .i64) _ 3 ?hg (N := 64) ?hd (xs := ([] : List Int)) (inner := []) (ok := fun _ => True) (okp := fun _ => True) ?hr ?hp (fun _ hk => hk) trivial (Below.refl _ _) (Nat.le_refl _) (by simp) ?_; (case hd => rfl); (case hg => rfl); (case hr => first | (go_simp; done) | (go_simp; rfl)); (case hp => exact (Reps.none _ _))
                intro v274 w96 ho97 hb hg_ hnew_
                clear hg_ hnew_
                (first | rw [← Ny273.out] at ho97 | (simp only [Int.reduceToNat] at ho97; rw [← Ny273.out] at ho97))
                have n0_ := Aside0.mk (ZK (by (with_reducible repeat (first | apply Zn | apply Zm | apply Zo)); exact HO_229001.out) (Kd.R_base ho97) hb)
                have n1_ := Aside0.mk (Kd.R_lower ho97 (Zs (by repeat (first | (with_reducible first | exact HB.out | apply Zj | apply Ze | apply Zi | refine Zd ?_ GE226.out | refine Zd ?_ GE227.out | refine Zd ?_ GE228.out) | exact HB.out))))
                have n2_ := Aside0.mk (Zp (g := gb226) (o := .cells #[.int .i64 a0_0, .slice (some ad230) l0_1.length c0_1] 27 (0, 0)) (by (with_reducible repeat (first | refine Zg ?_ _ | refine Zh ?_ | refine Zf ?_ _)); exact BK226.out) hb)
                have n3_ := Aside0.mk (Zp (g := gb227) (o := .cells #[.int .i64 0, .slice none 0 0] 27 (0, 0)) (by (with_reducible repeat (first | refine Zg ?_ _ | refine Zh ?_ | refine Zf ?_ _)); exact BK227.out) hb)
                have n4_ := Aside0.mk (Zp (g := gb228) (o := .cells #[.int .i64 a0_0, u229001] 27 (0, 0)) (by (with_reducible repeat (first | refine Zg ?_ _ | refine Zh ?_ | refine Zf ?_ _)); exact BK228.out) hb)
                have n5_ := Aside0.mk (Zu (by repeat (first | (with_reducible first | exact HB.out | apply Zj | apply Ze | apply Zi | refine Zd ?_ GE226.out | refine Zd ?_ GE227.out | refine Zd ?_ GE228.out) | exact HB.out)) hb)
                clear HO_229001
                clear BK226
                clear BK227
                clear BK228
                clear HB
                have HO_229001 := n0_
                have HO275 := n1_
                have BK226 := n2_
                have BK227 := n3_
                have BK228 := n4_
                have HB := n5_
                clear n0_ n1_ n2_ n3_ n4_ n5_
                clear hb ho97
                refine hK.out _ _ ⟨(Zk BK228.out 0).trans rfl, (Zk BK228.out 1).trans rfl⟩ (fun hHeld => ?_)
                clear hK K
                refine norm_ (a' := ?_) ?_ ?_
                rotate_left
                ·show Act.put _ (some 64) _ = _
                 simp only [Act.put, Za, Zb, Zc, Zq, Zr]
                 rfl
                refine one_ (i := 4) (N := some 66) #[Y,Y,Y,Y,Y,O,O,O,O] rfl rfl (one_of HT_.out (by kernel_rfl)) (by decide) (fun K hK => ?_)
                refine Kd.R_append_rows_step (Kd.int .i64) (w0 := w) w.heap.size (by rfl) (.tmp 64) (.tmp 65) 31 3 (.int .i64 0) 8 rfl Try.underlying31 info3 rfl (by decide) (by omega) v274 y273 (rd_L1 l0_1 x10_1) _ _ _ (fun _ => True) (fun _ => False) rfl rfl ?aO ?aR (fun _ _ h => h) (fun _ h => h.elim) ?aF ?aB ?aS ?aL ?_
                (case aR => repeat (first | exact (ZG HR230_0.out HB.out) | (with_reducible refine Zw ?_ _) | (with_reducible refine Zv ?_ _) | (with_reducible refine Zz ?_)))
                (case aB => exact (by repeat (first | (with_reducible first | exact HB.out | apply Zj | apply Ze | apply Zi | refine Zd ?_ GE226.out | refine Zd ?_ GE227.out | refine Zd ?_ GE228.out) | exact HB.out)))
                (case aF => exact (fun _ _ => trivial))
                (case aO => exact (by (with_reducible repeat (first | apply ZO | apply ZN | apply ZQ)); exact HO275.out))
                (case aS => exact (Zs (by repeat (first | (with_reducible first | exact HB.out | apply Zj | apply Ze | apply Zi | refine Zd ?_ GE226.out | refine Zd ?_ GE227.out | refine Zd ?_ GE228.out) | exact HB.out))))
                (case aL => have := LMc90.out; omega)
                intro v277 w98 ho hb hg hat
                rw [← Ny276.out] at ho
                have n0_ := Aside0.mk (Kd.S_after (ok := (fun _ => True)) (by (with_reducible repeat (first | apply Zn | apply Zm | apply Zo)); exact HO_229001.out) hg hat)
                have n1_ := Aside0.mk (ZS (g := gb226) (o := .cells #[.int .i64 a0_0, .slice (some ad230) l0_1.length c0_1] 27 (0, 0)) (by (with_reducible repeat (first | refine Zg ?_ _ | refine Zh ?_ | refine Zf ?_ _)); exact BK226.out) hg (Kd.R_ne HO275.out BK226.out (by decide)))
                have n2_ := Aside0.mk (ZS (g := gb227) (o := .cells #[.int .i64 0, .slice none 0 0] 27 (0, 0)) (by (with_reducible repeat (first | refine Zg ?_ _ | refine Zh ?_ | refine Zf ?_ _)); exact BK227.out) hg (Kd.R_ne HO275.out BK227.out (by decide)))
                have n3_ := Aside0.mk (ZS (g := gb228) (o := .cells #[.int .i64 a0_0, u229001] 27 (0, 0)) (by (with_reducible repeat (first | refine Zg ?_ _ | refine Zh ?_ | refine Zf ?_ _)); exact BK228.out) hg (Kd.R_ne HO275.out BK228.out (by decide)))
                have n4_ := Aside0.mk (hb)
                have n5_ := Aside0.mk (ho)
                clear HO_229001
                clear BK226
                clear BK227
                clear BK228
                clear HB
                clear HO275
                have HO_229001 := n0_
                have BK226 := n1_
                have BK227 := n2_
                have BK228 := n3_
                have HB := n4_
                have HO278 := n5_
                clear n0_ n1_ n2_ n3_ n4_ n5_
                clear ho hb hg hat
                obtain ⟨Ao100, co100, eo100⟩ := Kd.R_slice HO278.out
                (first | subst eo100 | (injection eo100 with f1_ f2_ f3_; have f4_ := f1_.symm; have f5_ := f3_.symm; clear f1_ f2_ f3_; subst f4_; subst f5_))
                refine hK.out _ _ ⟨(Zk BK228.out 0).trans rfl, (Zk BK228.out 1).trans rfl⟩ (fun hHeld => ?_)
                clear hK K
                refine norm_ (a' := ?_) ?_ ?_
                rotate_left
                ·show Act.put _ (some 66) _ = _
                 simp only [Act.put, Za, Zb, Zc, Zq, Zr]
                 rfl
                refine one_ (i := 5) (N := some 67) #[Y,Y,Y,Y,Y,Y,O,O,O] rfl rfl (one_of HT_.out (by kernel_rfl)) (by decide) (fun K hK => ?_)
                refine value_ (w1 := ?_) (v := ?_) (by rfl) rfl ?_ ?_
                rotate_left 2
                ·go_simp
                 constructor
                 ·rfl
                 ·rfl
                refine hK.out _ _ ⟨(Zk (Zf BK228.out _) 0).trans rfl, (Zk (Zf BK228.out _) 1).trans rfl⟩ (fun hHeld => ?_)
                clear hK K
                refine norm_ (a' := ?_) ?_ ?_
                rotate_left
                ·show Act.put _ (some 67) _ = _
                 simp only [Act.put, Za, Zb, Zc, Zq, Zr]
                 rfl
                refine one_ (i := 6) (N := some 68) #[Y,Y,Y,Y,Y,Y,Y,O,O] rfl rfl (one_of HT_.out (by kernel_rfl)) (by decide) (fun K hK => ?_)
                refine Kd.S_append_step (Kd.slice 3 (Kd.int .i64)) (w0 := w) w.heap.size (by rfl) (.tmp 63) (.tmp 67) 22 31 (.slice none 0 0) 24 rfl Try.underlying22 info31 rfl (by decide) (by omega) u229001 x229001_1 y276 [.slice Ao100 y276.length co100] (fun _ => True) (fun k_ => some k_ = (.slice Ao100 y276.length co100 : Value).ownBlock) rfl rfl ?aP (fun k_ hk_ => ((ZR (ok' := fun k_ => ((fun _ => True)) k_ ∧ some k_ ≠ (u229001 : Value).ownBlock) (Kd.R_apart' (HO278.out) (Kd.S_typed HO_229001.out) (by decide)) (fun k_ hk => ⟨trivial, hk.2⟩))).1 k_ hk_.symm) ?aF ?aO ?aB ?aS ?aL ?_
                (case aP => exact Kd.M_row (ZR (Kd.R_tight rfl (ZR (ok' := fun k_ => ((fun _ => True)) k_ ∧ some k_ ≠ (u229001 : Value).ownBlock) (Kd.R_apart' (HO278.out) (Kd.S_typed HO_229001.out) (by decide)) (fun k_ hk => ⟨trivial, hk.2⟩))) (fun _ h_ => h_)))
                (case aB => exact (by repeat (first | (with_reducible first | exact HB.out | apply Zj | apply Ze | apply Zi | refine Zd ?_ GE226.out | refine Zd ?_ GE227.out | refine Zd ?_ GE228.out) | exact HB.out)))
                (case aF => exact (fun _ _ => trivial))
                (case aO => exact (by (with_reducible repeat (first | apply Zn | apply Zm | apply Zo)); exact Zy HO_229001.out (fun k_ hk => ⟨trivial, fun e_ => hk.2 e_⟩)))
                (case aS => exact (Zs (by repeat (first | (with_reducible first | exact HB.out | apply Zj | apply Ze | apply Zi | refine Zd ?_ GE226.out | refine Zd ?_ GE227.out | refine Zd ?_ GE228.out) | exact HB.out))))
                (case aL => have := LMc91.out; omega)
                intro v280 w99 ho hb hg hat
                rw [← Ny279.out] at ho
                have n0_ := Aside0.mk (ZS (g := gb226) (o := .cells #[.int .i64 a0_0, .slice (some ad230) l0_1.length c0_1] 27 (0, 0)) (by (with_reducible repeat (first | refine Zg ?_ _ | refine Zh ?_ | refine Zf ?_ _)); exact BK226.out) hg (Kd.S_ne HO_229001.out BK226.out (by decide)))
                have n1_ := Aside0.mk (ZS (g := gb227) (o := .cells #[.int .i64 0, .slice none 0 0] 27 (0, 0)) (by (with_reducible repeat (first | refine Zg ?_ _ | refine Zh ?_ | refine Zf ?_ _)); exact BK227.out) hg (Kd.S_ne HO_229001.out BK227.out (by decide)))
                have n2_ := Aside0.mk (ZS (g := gb228) (o := .cells #[.int .i64 a0_0, u229001] 27 (0, 0)) (by (with_reducible repeat (first | refine Zg ?_ _ | refine Zh ?_ | refine Zf ?_ _)); exact BK228.out) hg (Kd.S_ne HO_229001.out BK228.out (by decide)))
                have n3_ := Aside0.mk (hb)
                have n4_ := Aside0.mk (ho)
                clear BK226
                clear BK227
                clear BK228
                clear HB
                clear HO_229001
                clear HO278
                have BK226 := n0_
                have BK227 := n1_
                have BK228 := n2_
                have HB := n3_
                have HO281 := n4_
                clear n0_ n1_ n2_ n3_ n4_
                clear ho hb hg hat
                obtain ⟨Ao101, co101, eo101⟩ := Kd.S_slice HO281.out
                (first | subst eo101 | (injection eo101 with f1_ f2_ f3_; have f4_ := f1_.symm; have f5_ := f3_.symm; clear f1_ f2_ f3_; subst f4_; subst f5_))
                refine hK.out _ _ ⟨(Zk BK228.out 0).trans rfl, (Zk BK228.out 1).trans rfl⟩ (fun hHeld => ?_)
                clear hK K
                refine norm_ (a' := ?_) ?_ ?_
                rotate_left
                ·show Act.put _ (some 68) _ = _
                 simp only [Act.put, Za, Zb, Zc, Zq, Zr]
                 rfl
                refine Zx (i := 7) (N := some 69) (v := ?_) (a' := ?_) #[Y,Y,Y,Y,Y,Y,Y,Y,O] rfl rfl (Zt HT_.out (by kernel_rfl)) (fun _ _ _ h => h) (Or.inl ⟨by rfl, ?_⟩) ?_ ?_
                rotate_left
                ·intro w'
                 go_simp
                 with_reducible rfl
                rotate_left
                ·simp only [Act.put, Za, Zb, Zc, Zq, Zr]
                 rfl
                refine last_ (i := 8) (N := none) #[Y,Y,Y,Y,Y,Y,Y,Y,Y] rfl rfl (one_of HT_.out (by kernel_rfl)) (by decide) (fun K hK => ?_)
                have hs102 : w99.cell? ⟨gb228, 1, none⟩ = some (u229001) := (Zk BK228.out 1).trans rfl
                have hfs102 := Zl BK228.out 1
                have hns102_0 := NB226_228.out
                have hns102_1 := NB227_228.out
                have hms102_0 := NB228_226.out
                have hms102_1 := NB228_227.out
                refine skip_ (w1 := ?_) (by rfl) rfl ?_ ?_
                rotate_left
                ·go_simp
                 rfl
                refine hK.out _ _ ?_
                clear hK K
                refine done_ (done_of HT_.out (by kernel_rfl)) ?_
                try go_wp2
                go_roundg kj11
                case measure => have := HK1.out; have := HJ11.out; omega
                case rel => exact ⟨(false), (wrap64 (x10_1 + 1)), (y279), (.slice Ao101 y279.length co101), (by first | rfl | (simp; done) | (simp [*]; done)), (by first | rfl | (simp; done) | (simp [*]; done)), H', ⟨by have := HK1.out; have := HJ11.out; omega⟩, ⟨by (with_reducible repeat (first | apply Zn | apply Zm | apply Zo)); exact Zy (ZB (p := ⟨gb228, 1, none⟩) (ZJ HO281.out BK228.out (by decide)) (fun _ hk => hk.2) (.slice Ao101 y279.length co101)) (fun _ hk => trivial)⟩, ⟨by (with_reducible repeat (first | refine Zg ?_ _ | refine Zh ?_ | refine Zf ?_ _)); refine ZP ?_ NB226_228.out _; (with_reducible repeat (first | refine Zg ?_ _ | refine Zh ?_ | refine Zf ?_ _)); exact BK226.out⟩, ⟨by (with_reducible repeat (first | refine Zg ?_ _ | refine Zh ?_ | refine Zf ?_ _)); refine ZP ?_ NB227_228.out _; (with_reducible repeat (first | refine Zg ?_ _ | refine Zh ?_ | refine Zf ?_ _)); exact BK227.out⟩, ⟨by (with_reducible repeat (first | refine Zg ?_ _ | refine Zh ?_ | refine Zf ?_ _)); refine blk_put (cs := #[.int .i64 a0_0, u229001]) ?_ 1 _ rfl; (with_reducible repeat (first | refine Zg ?_ _ | refine Zh ?_ | refine Zf ?_ _)); exact BK228.out⟩, ⟨by repeat (first | (with_reducible first | exact HB.out | apply Zj | apply Ze | apply Zi | refine Zd ?_ GE226.out | refine Zd ?_ GE227.out | refine Zd ?_ GE228.out) | exact HB.out)⟩⟩
               ·rw [if_neg c91] at H
                exact absurd H (by simp)
              ·rw [if_neg c90] at H
               exact absurd H (by simp)
            ·rw [if_neg c65] at H
             exact absurd H (by simp)
           ·rw [if_neg c64] at H
            have c64b0 : ((rd (rd_L1 l0_1 x10_1) 0) == a1) = false := beq_eq_false_iff_ne.mpr c64
            have c64b1 : ((rd (rd_L1 l0_1 x10_1) 0) != a1) = true := bne_iff_ne.mpr c64
            obtain ⟨y282, hy282⟩ : ∃ y_ : List Int, y_ = (([] : List Int)) := ⟨_, rfl⟩
            replace H : (if y282.length + (rd_L1 l0_1 x10_1).length < 17592186044416 then (if x229001_1.length < 5864062014805 then (spec_AddAttack.l0 kj11 a1 a2 false (wrap64 (x10_1 + 1)) a0_0 l0_1 a0_0 (x229001_1 ++ [(y282 ++ (rd_L1 l0_1 x10_1))])) else (none)) else (none)) = some (r1, r2, r3) := by first | (rw [hy282]; with_reducible exact H) | (have H2_ := (Option.bind_some _ _).symm.trans H; rw [hy282]; with_reducible exact H2_) | (have H2_ := (Option.bind_some _ _).symm.trans H; with_reducible exact H2_) | with_reducible exact H | (rw [hy282]; exact H) | exact H
            have Ny282 := Aside0.mk hy282
            clear hy282
            by_cases c103 : y282.length + (rd_L1 l0_1 x10_1).length < 17592186044416
            ·rw [if_pos c103] at H
             have LMc103 := Aside0.mk c103
             clear c103
             obtain ⟨y285, hy285⟩ : ∃ y_ : List Int, y_ = (y282 ++ (rd_L1 l0_1 x10_1)) := ⟨_, rfl⟩
             replace H : (if x229001_1.length < 5864062014805 then (spec_AddAttack.l0 kj11 a1 a2 false (wrap64 (x10_1 + 1)) a0_0 l0_1 a0_0 (x229001_1 ++ [y285])) else (none)) = some (r1, r2, r3) := by first | (rw [hy285]; with_reducible exact H) | (have H2_ := (Option.bind_some _ _).symm.trans H; rw [hy285]; with_reducible exact H2_) | (have H2_ := (Option.bind_some _ _).symm.trans H; with_reducible exact H2_) | with_reducible exact H | (rw [hy285]; exact H) | exact H
             have Ny285 := Aside0.mk hy285
             clear hy285
             by_cases c104 : x229001_1.length < 5864062014805
             ·rw [if_pos c104] at H
              have LMc104 := Aside0.mk c104
              clear c104
              obtain ⟨y288, hy288⟩ : ∃ y_ : List (List Int), y_ = (x229001_1 ++ [y285]) := ⟨_, rfl⟩
              replace H : (spec_AddAttack.l0 kj11 a1 a2 false (wrap64 (x10_1 + 1)) a0_0 l0_1 a0_0 y288) = some (r1, r2, r3) := by first | (rw [hy288]; with_reducible exact H) | (have H2_ := (Option.bind_some _ _).symm.trans H; rw [hy288]; with_reducible exact H2_) | (have H2_ := (Option.bind_some _ _).symm.trans H; with_reducible exact H2_) | with_reducible exact H | (rw [hy288]; exact H) | exact H
              have Ny288 := Aside0.mk hy288
              clear hy288
              have H' := Aside0.mk H
              clear H
              have hnb105 := NB226_227.out
              have hnc105 := NB227_226.out
              have hnb106 := NB226_228.out
              have hnc106 := NB228_226.out
              have hcz107_0 : wc.cell? ⟨gb226, 0, none⟩ = some (.int .i64 a0_0) := (Zk BK226.out 0).trans rfl
              have hcz107_1 : wc.cell? ⟨gb226, 1, none⟩ = some (.slice A0_1 l0_1.length c0_1) := (Zk BK226.out 1).trans rfl
              have hfz107_0 := Zl BK226.out 0
              have hfz107_1 := Zl BK226.out 1
              have p230 : 0 ≤ (x10_1 : Int) := of_decide_eq_true (by first | (with_reducible assumption) | assumption)
              have q230 : x10_1 < (l0_1.length : Int) := of_decide_eq_true (by first | (with_reducible assumption) | assumption)
              obtain ⟨ad230, A230_0, c230_0, e230, hx230_0, hl230_0, hi230_0⟩ := at_L1 HR0_1.out x10_1 p230 q230
              cases e230
              replace hx230_0 := (HB.out.cell (World.block_lt_of_cell? w _ hx230_0)).trans hx230_0
              have HR230_0 := Aside0.mk hi230_0
              have HC230_0 := Aside0.mk hl230_0
              clear hi230_0 hl230_0
              replace p230 := eq_true p230
              replace q230 := eq_true q230
              have p240 : 0 ≤ (0 : Int) := (by omega)
              have q240 : 0 < ((rd_L1 l0_1 x10_1).length : Int) := of_decide_eq_true (by first | (with_reducible assumption) | assumption)
              obtain ⟨ad240, e240, hx240_0⟩ := ZI HR230_0.out 0 p240 q240
              cases e240
              have qi240 : (0 < (rd_L1 l0_1 x10_1).length) = True := eq_true (by omega)
              (try rw [show ((0 : Int)).toNat = 0 from rfl] at hx240_0)
              (try rw [Addr.add_zero'] at hx240_0)
              replace hx240_0 := (HB.out.cell (World.block_lt_of_cell? w _ hx240_0)).trans hx240_0
              replace p240 := eq_true p240
              replace q240 := eq_true q240
              have p256 : 0 ≤ (0 : Int) := (by omega)
              have q256 : 0 < ((rd_L1 l0_1 x10_1).length : Int) := of_decide_eq_true (by first | (with_reducible assumption) | assumption)
              obtain ⟨ad256, e256, hx256_0⟩ := ZI HR230_0.out 0 p256 q256
              obtain rfl : ad240 = ad256 := (by injection e256)
              have qi256 : (0 < (rd_L1 l0_1 x10_1).length) = True := eq_true (by omega)
              (try rw [show ((0 : Int)).toNat = 0 from rfl] at hx256_0)
              (try rw [Addr.add_zero'] at hx256_0)
              replace hx256_0 := (HB.out.cell (World.block_lt_of_cell? w _ hx256_0)).trans hx256_0
              replace p256 := eq_true p256
              replace q256 := eq_true q256
              try go_wp2
              have n0_ := Aside0.mk (Zo HO_229001.out)
              have n1_ := Aside0.mk (Zh BK226.out)
              have n2_ := Aside0.mk (Zh BK227.out)
              have n3_ := Aside0.mk (Zh BK228.out)
              have n4_ := Aside0.mk (Zi HB.out)
              clear HO_229001
              clear BK226
              clear BK227
              clear BK228
              clear HB
              have HO_229001 := n0_
              have BK226 := n1_
              have BK227 := n2_
              have BK228 := n3_
              have HB := n4_
              clear n0_ n1_ n2_ n3_ n4_
              refine start_ (n := 9) (S := fun w' => w'.cell? ⟨gb228, 0, none⟩ = some (.int .i64 a0_0) ∧ w'.cell? ⟨gb228, 1, none⟩ = some (u229001)) (ds := [8]) #[O,O,O,O,O,O,O,O,O] (by kernel_rfl) rfl rfl ⟨(Zk BK228.out 0).trans rfl, (Zk BK228.out 1).trans rfl⟩ (fun hHeld => ?_); refine with_tabW spec_AddAttack.tab10 spec_AddAttack.bits10 (fun HT_ HW_ => ?_)
              generalize wc.drew = w108 at HO_229001 BK226 BK227 BK228 HB hHeld ⊢
              refine Zx (i := 0) (N := some 62) (v := ?_) (a' := ?_) #[Y,O,O,O,O,O,O,O,O] rfl rfl (Zt HT_.out (by kernel_rfl)) (fun _ _ _ h => h) (Or.inl ⟨by rfl, ?_⟩) ?_ ?_
              rotate_left
              ·intro w'
               go_simp
               with_reducible rfl
              rotate_left
              ·simp only [Act.put, Za, Zb, Zc, Zq, Zr]
               rfl
              refine Zx (i := 3) (N := some 65) (v := ?_) (a' := ?_) #[Y,O,O,Y,O,O,O,O,O] rfl rfl (Zt HT_.out (by kernel_rfl)) (fun _ _ _ h => h) (Or.inl ⟨by rfl, ?_⟩) ?_ ?_
              rotate_left
              ·intro w'
               go_simp
               with_reducible rfl
              rotate_left
              ·simp only [Act.put, Za, Zb, Zc, Zq, Zr]
               rfl
              refine take_ (i := 1) (N := some 63) (v := ?_) (a' := ?_) #[Y,Y,O,Y,O,O,O,O,O] rfl rfl (take_ofW HT_.out HW_.out (by kernel_rfl)) (fun _ _ _ h => h) (Or.inl ⟨by rfl, ?_⟩) hHeld ?_ ?_
              rotate_left
              ·rintro w' ⟨s0, s1⟩
               go_simp
               with_reducible rfl
              rotate_left
              ·simp only [Act.put, Za, Zb, Zc, Zq, Zr]
               rfl
              refine one_ (i := 2) (N := some 64) #[Y,Y,Y,Y,O,O,O,O,O] rfl rfl (one_of HT_.out (by kernel_rfl)) (by decide) (fun K hK => ?_)
              refine Kd.R_lit_step (Kd.int .i64) _ 3 ?hg (N := 64) ?hd (xs := ([] : List Int)) (inner := []) (ok := fun _ => True) (okp := fun _ => True) ?hr ?hp (fun _ hk => hk) trivial (Below.refl _ _) (Nat.le_refl _) (by simp) ?_; (case hd => rfl); (case hg => rfl); (case hr => first | (go_simp; done) | (go_simp; rfl)); (case hp => exact (Reps.none _ _))
              intro v283 w109 ho110 hb hg_ hnew_
              clear hg_ hnew_
              (first | rw [← Ny282.out] at ho110 | (simp only [Int.reduceToNat] at ho110; rw [← Ny282.out] at ho110))
              have n0_ := Aside0.mk (ZK (by (with_reducible repeat (first | apply Zn | apply Zm | apply Zo)); exact HO_229001.out) (Kd.R_base ho110) hb)
              have n1_ := Aside0.mk (Kd.R_lower ho110 (Zs (by repeat (first | (with_reducible first | exact HB.out | apply Zj | apply Ze | apply Zi | refine Zd ?_ GE226.out | refine Zd ?_ GE227.out | refine Zd ?_ GE228.out) | exact HB.out))))
              have n2_ := Aside0.mk (Zp (g := gb226) (o := .cells #[.int .i64 a0_0, .slice (some ad230) l0_1.length c0_1] 27 (0, 0)) (by (with_reducible repeat (first | refine Zg ?_ _ | refine Zh ?_ | refine Zf ?_ _)); exact BK226.out) hb)
              have n3_ := Aside0.mk (Zp (g := gb227) (o := .cells #[.int .i64 0, .slice none 0 0] 27 (0, 0)) (by (with_reducible repeat (first | refine Zg ?_ _ | refine Zh ?_ | refine Zf ?_ _)); exact BK227.out) hb)
              have n4_ := Aside0.mk (Zp (g := gb228) (o := .cells #[.int .i64 a0_0, u229001] 27 (0, 0)) (by (with_reducible repeat (first | refine Zg ?_ _ | refine Zh ?_ | refine Zf ?_ _)); exact BK228.out) hb)
              have n5_ := Aside0.mk (Zu (by repeat (first | (with_reducible first | exact HB.out | apply Zj | apply Ze | apply Zi | refine Zd ?_ GE226.out | refine Zd ?_ GE227.out | refine Zd ?_ GE228.out) | exact HB.out)) hb)
              clear HO_229001
              clear BK226
              clear BK227
              clear BK228
              clear HB
              have HO_229001 := n0_
              have HO284 := n1_
              have BK226 := n2_
              have BK227 := n3_
              have BK228 := n4_
              have HB := n5_
              clear n0_ n1_ n2_ n3_ n4_ n5_
              clear hb ho110
              refine hK.out _ _ ⟨(Zk BK228.out 0).trans rfl, (Zk BK228.out 1).trans rfl⟩ (fun hHeld => ?_)
              clear hK K
              refine norm_ (a' := ?_) ?_ ?_
              rotate_left
              ·show Act.put _ (some 64) _ = _
               simp only [Act.put, Za, Zb, Zc, Zq, Zr]
               rfl
              refine one_ (i := 4) (N := some 66) #[Y,Y,Y,Y,Y,O,O,O,O] rfl rfl (one_of HT_.out (by kernel_rfl)) (by decide) (fun K hK => ?_)
              refine Kd.R_append_rows_step (Kd.int .i64) (w0 := w) w.heap.size (by rfl) (.tmp 64) (.tmp 65) 31 3 (.int .i64 0) 8 rfl Try.underlying31 info3 rfl (by decide) (by omega) v283 y282 (rd_L1 l0_1 x10_1) _ _ _ (fun _ => True) (fun _ => False) rfl rfl ?aO ?aR (fun _ _ h => h) (fun _ h => h.elim) ?aF ?aB ?aS ?aL ?_
              (case aR => repeat (first | exact (ZG HR230_0.out HB.out) | (with_reducible refine Zw ?_ _) | (with_reducible refine Zv ?_ _) | (with_reducible refine Zz ?_)))
              (case aB => exact (by repeat (first | (with_reducible first | exact HB.out | apply Zj | apply Ze | apply Zi | refine Zd ?_ GE226.out | refine Zd ?_ GE227.out | refine Zd ?_ GE228.out) | exact HB.out)))
              (case aF => exact (fun _ _ => trivial))
              (case aO => exact (by (with_reducible repeat (first | apply ZO | apply ZN | apply ZQ)); exact HO284.out))
              (case aS => exact (Zs (by repeat (first | (with_reducible first | exact HB.out | apply Zj | apply Ze | apply Zi | refine Zd ?_ GE226.out | refine Zd ?_ GE227.out | refine Zd ?_ GE228.out) | exact HB.out))))
              (case aL => have := LMc103.out; omega)
              intro v286 w111 ho hb hg hat
              rw [← Ny285.out] at ho
              have n0_ := Aside0.mk (Kd.S_after (ok := (fun _ => True)) (by (with_reducible repeat (first | apply Zn | apply Zm | apply Zo)); exact HO_229001.out) hg hat)
              have n1_ := Aside0.mk (ZS (g := gb226) (o := .cells #[.int .i64 a0_0, .slice (some ad230) l0_1.length c0_1] 27 (0, 0)) (by (with_reducible repeat (first | refine Zg ?_ _ | refine Zh ?_ | refine Zf ?_ _)); exact BK226.out) hg (Kd.R_ne HO284.out BK226.out (by decide)))
              have n2_ := Aside0.mk (ZS (g := gb227) (o := .cells #[.int .i64 0, .slice none 0 0] 27 (0, 0)) (by (with_reducible repeat (first | refine Zg ?_ _ | refine Zh ?_ | refine Zf ?_ _)); exact BK227.out) hg (Kd.R_ne HO284.out BK227.out (by decide)))
              have n3_ := Aside0.mk (ZS (g := gb228) (o := .cells #[.int .i64 a0_0, u229001] 27 (0, 0)) (by (with_reducible repeat (first | refine Zg ?_ _ | refine Zh ?_ | refine Zf ?_ _)); exact BK228.out) hg (Kd.R_ne HO284.out BK228.out (by decide)))
              have n4_ := Aside0.mk (hb)
              have n5_ := Aside0.mk (ho)
              clear HO_229001
              clear BK226
              clear BK227
              clear BK228
              clear HB
              clear HO284
              have HO_229001 := n0_
              have BK226 := n1_
              have BK227 := n2_
              have BK228 := n3_
              have HB := n4_
              have HO287 := n5_
              clear n0_ n1_ n2_ n3_ n4_ n5_
              clear ho hb hg hat
              obtain ⟨Ao113, co113, eo113⟩ := Kd.R_slice HO287.out
              (first | subst eo113 | (injection eo113 with f1_ f2_ f3_; have f4_ := f1_.symm; have f5_ := f3_.symm; clear f1_ f2_ f3_; subst f4_; subst f5_))
              refine hK.out _ _ ⟨(Zk BK228.out 0).trans rfl, (Zk BK228.out 1).trans rfl⟩ (fun hHeld => ?_)
              clear hK K
              refine norm_ (a' := ?_) ?_ ?_
              rotate_left
              ·show Act.put _ (some 66) _ = _
               simp only [Act.put, Za, Zb, Zc, Zq, Zr]
               rfl
              refine one_ (i := 5) (N := some 67) #[Y,Y,Y,Y,Y,Y,O,O,O] rfl rfl (one_of HT_.out (by kernel_rfl)) (by decide) (fun K hK => ?_)
              refine value_ (w1 := ?_) (v := ?_) (by rfl) rfl ?_ ?_
              rotate_left 2
              ·go_simp
               constructor
               ·rfl
               ·rfl
              refine hK.out _ _ ⟨(Zk (Zf BK228.out _) 0).trans rfl, (Zk (Zf BK228.out _) 1).trans rfl⟩ (fun hHeld => ?_)
              clear hK K
              refine norm_ (a' := ?_) ?_ ?_
              rotate_left
              ·show Act.put _ (some 67) _ = _
               simp only [Act.put, Za, Zb, Zc, Zq, Zr]
               rfl
              refine one_ (i := 6) (N := some 68) #[Y,Y,Y,Y,Y,Y,Y,O,O] rfl rfl (one_of HT_.out (by kernel_rfl)) (by decide) (fun K hK => ?_)
              refine Kd.S_append_step (Kd.slice 3 (Kd.int .i64)) (w0 := w) w.heap.size (by rfl) (.tmp 63) (.tmp 67) 22 31 (.slice none 0 0) 24 rfl Try.underlying22 info31 rfl (by decide) (by omega) u229001 x229001_1 y285 [.slice Ao113 y285.length co113] (fun _ => True) (fun k_ => some k_ = (.slice Ao113 y285.length co113 : Value).ownBlock) rfl rfl ?aP (fun k_ hk_ => ((ZR (ok' := fun k_ => ((fun _ => True)) k_ ∧ some k_ ≠ (u229001 : Value).ownBlock) (Kd.R_apart' (HO287.out) (Kd.S_typed HO_229001.out) (by decide)) (fun k_ hk => ⟨trivial, hk.2⟩))).1 k_ hk_.symm) ?aF ?aO ?aB ?aS ?aL ?_
              (case aP => exact Kd.M_row (ZR (Kd.R_tight rfl (ZR (ok' := fun k_ => ((fun _ => True)) k_ ∧ some k_ ≠ (u229001 : Value).ownBlock) (Kd.R_apart' (HO287.out) (Kd.S_typed HO_229001.out) (by decide)) (fun k_ hk => ⟨trivial, hk.2⟩))) (fun _ h_ => h_)))
              (case aB => exact (by repeat (first | (with_reducible first | exact HB.out | apply Zj | apply Ze | apply Zi | refine Zd ?_ GE226.out | refine Zd ?_ GE227.out | refine Zd ?_ GE228.out) | exact HB.out)))
              (case aF => exact (fun _ _ => trivial))
              (case aO => exact (by (with_reducible repeat (first | apply Zn | apply Zm | apply Zo)); exact Zy HO_229001.out (fun k_ hk => ⟨trivial, fun e_ => hk.2 e_⟩)))
              (case aS => exact (Zs (by repeat (first | (with_reducible first | exact HB.out | apply Zj | apply Ze | apply Zi | refine Zd ?_ GE226.out | refine Zd ?_ GE227.out | refine Zd ?_ GE228.out) | exact HB.out))))
              (case aL => have := LMc104.out; omega)
              intro v289 w112 ho hb hg hat
              rw [← Ny288.out] at ho
              have n0_ := Aside0.mk (ZS (g := gb226) (o := .cells #[.int .i64 a0_0, .slice (some ad230) l0_1.length c0_1] 27 (0, 0)) (by (with_reducible repeat (first | refine Zg ?_ _ | refine Zh ?_ | refine Zf ?_ _)); exact BK226.out) hg (Kd.S_ne HO_229001.out BK226.out (by decide)))
              have n1_ := Aside0.mk (ZS (g := gb227) (o := .cells #[.int .i64 0, .slice none 0 0] 27 (0, 0)) (by (with_reducible repeat (first | refine Zg ?_ _ | refine Zh ?_ | refine Zf ?_ _)); exact BK227.out) hg (Kd.S_ne HO_229001.out BK227.out (by decide)))
              have n2_ := Aside0.mk (ZS (g := gb228) (o := .cells #[.int .i64 a0_0, u229001] 27 (0, 0)) (by (with_reducible repeat (first | refine Zg ?_ _ | refine Zh ?_ | refine Zf ?_ _)); exact BK228.out) hg (Kd.S_ne HO_229001.out BK228.out (by decide)))
              have n3_ := Aside0.mk (hb)
              have n4_ := Aside0.mk (ho)
              clear BK226
              clear BK227
              clear BK228
              clear HB
              clear HO_229001
              clear HO287
              have BK226 := n0_
              have BK227 := n1_
              have BK228 := n2_
              have HB := n3_
              have HO290 := n4_
              clear n0_ n1_ n2_ n3_ n4_
              clear ho hb hg hat
              obtain ⟨Ao114, co114, eo114⟩ := Kd.S_slice HO290.out
              (first | subst eo114 | (injection eo114 with f1_ f2_ f3_; have f4_ := f1_.symm; have f5_ := f3_.symm; clear f1_ f2_ f3_; subst f4_; subst f5_))
              refine hK.out _ _ ⟨(Zk BK228.out 0).trans rfl, (Zk BK228.out 1).trans rfl⟩ (fun hHeld => ?_)
              clear hK K
              refine norm_ (a' := ?_) ?_ ?_
              rotate_left
              ·show Act.put _ (some 68) _ = _
               simp only [Act.put, Za, Zb, Zc, Zq, Zr]
               rfl
              refine Zx (i := 7) (N := some 69) (v := ?_) (a' := ?_) #[Y,Y,Y,Y,Y,Y,Y,Y,O] rfl rfl (Zt HT_.out (by kernel_rfl)) (fun _ _ _ h => h) (Or.inl ⟨by rfl, ?_⟩) ?_ ?_
              rotate_left
              ·intro w'
               go_simp
               with_reducible rfl
              rotate_left
              ·simp only [Act.put, Za, Zb, Zc, Zq, Zr]
               rfl
              refine last_ (i := 8) (N := none) #[Y,Y,Y,Y,Y,Y,Y,Y,Y] rfl rfl (one_of HT_.out (by kernel_rfl)) (by decide) (fun K hK => ?_)
              have hs115 : w112.cell? ⟨gb228, 1, none⟩ = some (u229001) := (Zk BK228.out 1).trans rfl
              have hfs115 := Zl BK228.out 1
              have hns115_0 := NB226_228.out
              have hns115_1 := NB227_228.out
              have hms115_0 := NB228_226.out
              have hms115_1 := NB228_227.out
              refine skip_ (w1 := ?_) (by rfl) rfl ?_ ?_
              rotate_left
              ·go_simp
               rfl
              refine hK.out _ _ ?_
              clear hK K
              refine done_ (done_of HT_.out (by kernel_rfl)) ?_
              try go_wp2
              go_roundg kj11
              case measure => have := HK1.out; have := HJ11.out; omega
              case rel => exact ⟨(false), (wrap64 (x10_1 + 1)), (y288), (.slice Ao114 y288.length co114), (by first | rfl | (simp; done) | (simp [*]; done)), (by first | rfl | (simp; done) | (simp [*]; done)), H', ⟨by have := HK1.out; have := HJ11.out; omega⟩, ⟨by (with_reducible repeat (first | apply Zn | apply Zm | apply Zo)); exact Zy (ZB (p := ⟨gb228, 1, none⟩) (ZJ HO290.out BK228.out (by decide)) (fun _ hk => hk.2) (.slice Ao114 y288.length co114)) (fun _ hk => trivial)⟩, ⟨by (with_reducible repeat (first | refine Zg ?_ _ | refine Zh ?_ | refine Zf ?_ _)); refine ZP ?_ NB226_228.out _; (with_reducible repeat (first | refine Zg ?_ _ | refine Zh ?_ | refine Zf ?_ _)); exact BK226.out⟩, ⟨by (with_reducible repeat (first | refine Zg ?_ _ | refine Zh ?_ | refine Zf ?_ _)); refine ZP ?_ NB227_228.out _; (with_reducible repeat (first | refine Zg ?_ _ | refine Zh ?_ | refine Zf ?_ _)); exact BK227.out⟩, ⟨by (with_reducible repeat (first | refine Zg ?_ _ | refine Zh ?_ | refine Zf ?_ _)); refine blk_put (cs := #[.int .i64 a0_0, u229001]) ?_ 1 _ rfl; (with_reducible repeat (first | refine Zg ?_ _ | refine Zh ?_ | refine Zf ?_ _)); exact BK228.out⟩, ⟨by repeat (first | (with_reducible first | exact HB.out | apply Zj | apply Ze | apply Zi | refine Zd ?_ GE226.out | refine Zd ?_ GE227.out | refine Zd ?_ GE228.out) | exact HB.out)⟩⟩
             ·rw [if_neg c104] at H
              exact absurd H (by simp)
            ·rw [if_neg c103] at H
             exact absurd H (by simp)
         ·rw [if_neg c39] at H
          exact absurd H (by simp)
       ·rw [if_neg c24] at H
        exact absurd H (by simp)
      ·rw [if_neg c23] at H
       exact absurd H (by simp)
     ·replace c22 := Bool.eq_false_iff.mpr c22
      subst c22
      have H1 : (if x9_1 = true then (spec_AddAttack.j2 kj11 a0_0 l0_1 a0_0 x229001_1) else (if x229001_1.length < 5864062014805 then (spec_AddAttack.j2 kj11 a0_0 l0_1 a0_0 (x229001_1 ++ [(([a1, a2] : List Int))])) else (none))) = some (r1, r2, r3) := by rw [if_neg (show ¬ (false = true) by decide)] at H; exact H
      clear H
      have H := H1
      clear H1
      have HC116 := Aside0.mk H
      clear H
      go_upto_if 71 with (fail)
      go_cut [] (fun wc => ∃ (kq : Nat) (x229001_115 : List (List Int)) (u229001 : Value), Aside0 (spec_AddAttack.j2 kq a0_0 l0_1 a0_0 x229001_115 = some (r1, r2, r3)) ∧ Aside0 (kq ≤ kj11) ∧ Aside0 (Kd.S (Kd.slice 3 (Kd.int .i64)) 31 wc w.heap.size (fun _ => True) u229001 x229001_115) ∧ Aside0 (wc.heap[gb226]? = some (.cells #[.int .i64 a0_0, (.slice A0_1 l0_1.length c0_1)] 27 (0, 0))) ∧ Aside0 (wc.heap[gb227]? = some (.cells #[.int .i64 0, (.slice none 0 0)] 27 (0, 0))) ∧ Aside0 (wc.heap[gb228]? = some (.cells #[.int .i64 a0_0, u229001] 27 (0, 0))) ∧ Aside0 (Below w.heap.size w wc))
      case first =>
       have H := HC116.out
       clear HC116
       by_cases c117 : x9_1 = true
       ·subst c117
        have H1 : (spec_AddAttack.j2 kj11 a0_0 l0_1 a0_0 x229001_1) = some (r1, r2, r3) := by rw [if_pos rfl] at H; exact H
        clear H
        have H := H1
        clear H1
        have H' := Aside0.mk H
        clear H
        go_wp2
        go_meet
        case rel => exact ⟨_, (x229001_1), (u229001), H', ⟨by have := HK1.out; have := HJ11.out; first | omega | exact Nat.le_refl _⟩, ⟨by (with_reducible repeat (first | apply Zn | apply Zm | apply Zo)); exact HO_229001.out⟩, ⟨by (with_reducible repeat (first | refine Zg ?_ _ | refine Zh ?_ | refine Zf ?_ _)); exact BK226.out⟩, ⟨by (with_reducible repeat (first | refine Zg ?_ _ | refine Zh ?_ | refine Zf ?_ _)); exact BK227.out⟩, ⟨by (with_reducible repeat (first | refine Zg ?_ _ | refine Zh ?_ | refine Zf ?_ _)); exact BK228.out⟩, ⟨by repeat (first | (with_reducible first | exact HB.out | apply Zj | apply Ze | apply Zi | refine Zd ?_ GE226.out | refine Zd ?_ GE227.out | refine Zd ?_ GE228.out) | exact HB.out)⟩⟩
       ·replace c117 := Bool.eq_false_iff.mpr c117
        subst c117
        have H1 : (if x229001_1.length < 5864062014805 then (spec_AddAttack.j2 kj11 a0_0 l0_1 a0_0 (x229001_1 ++ [(([a1, a2] : List Int))])) else (none)) = some (r1, r2, r3) := by rw [if_neg (show ¬ (false = true) by decide)] at H; exact H
        clear H
        have H := H1
        clear H1
        obtain ⟨y291, hy291⟩ : ∃ y_ : List Int, y_ = (([a1, a2] : List Int)) := ⟨_, rfl⟩
        replace H : (if x229001_1.length < 5864062014805 then (spec_AddAttack.j2 kj11 a0_0 l0_1 a0_0 (x229001_1 ++ [y291])) else (none)) = some (r1, r2, r3) := by first | (rw [hy291]; with_reducible exact H) | (have H2_ := (Option.bind_some _ _).symm.trans H; rw [hy291]; with_reducible exact H2_) | (have H2_ := (Option.bind_some _ _).symm.trans H; with_reducible exact H2_) | with_reducible exact H | (rw [hy291]; exact H) | exact H
        have Ny291 := Aside0.mk hy291
        clear hy291
        by_cases c118 : x229001_1.length < 5864062014805
        ·rw [if_pos c118] at H
         have LMc118 := Aside0.mk c118
         clear c118
         obtain ⟨y294, hy294⟩ : ∃ y_ : List (List Int), y_ = (x229001_1 ++ [y291]) := ⟨_, rfl⟩
         replace H : (spec_AddAttack.j2 kj11 a0_0 l0_1 a0_0 y294) = some (r1, r2, r3) := by first | (rw [hy294]; with_reducible exact H) | (have H2_ := (Option.bind_some _ _).symm.trans H; rw [hy294]; with_reducible exact H2_) | (have H2_ := (Option.bind_some _ _).symm.trans H; with_reducible exact H2_) | with_reducible exact H | (rw [hy294]; exact H) | exact H
         have Ny294 := Aside0.mk hy294
         clear hy294
         have H' := Aside0.mk H
         clear H
         have hnb119 := NB228_226.out
         have hnc119 := NB226_228.out
         have hnb120 := NB228_227.out
         have hnc120 := NB227_228.out
         have hcz121_0 : wc.cell? ⟨gb228, 0, none⟩ = some (.int .i64 a0_0) := (Zk BK228.out 0).trans rfl
         have hcz121_1 : wc.cell? ⟨gb228, 1, none⟩ = some (u229001) := (Zk BK228.out 1).trans rfl
         have hfz121_0 := Zl BK228.out 0
         have hfz121_1 := Zl BK228.out 1
         go_wp2_with (first | ((with_reducible refine gate_dst (N := 76) rfl ?_); refine Kd.R_lit (Kd.int .i64) _ 3 ?hg (N := 76) ?hd (xs := ([a1, a2] : List Int)) (inner := [.int .i64 a1, .int .i64 a2]) (ok := fun _ => True) (okp := fun _ => True) ?hr ?hp (fun _ hk => hk) trivial (Below.refl _ _) (Nat.le_refl _) (by simp) ?_; (case hd => rfl); (case hg => rfl); (case hr => first | (go_simp; done) | (go_simp; rfl)); (case hp => exact (Reps.one (show Kd.M (Kd.int .i64) _ _ _ a1 [.int .i64 a1] from rfl) (Reps.one (show Kd.M (Kd.int .i64) _ _ _ a2 [.int .i64 a2] from rfl) (Reps.none _ _)))); intro v292 w122 ho123 hb hg_ hnew_; clear hg_ hnew_; (first | rw [← Ny291.out] at ho123 | (simp only [Int.reduceToNat] at ho123; rw [← Ny291.out] at ho123)); have n0_ := Aside0.mk (ZK (by (with_reducible repeat (first | apply Zn | apply Zm | apply Zo)); exact HO_229001.out) (Kd.R_base ho123) hb); have n1_ := Aside0.mk (Kd.R_lower ho123 (Zs (by repeat (first | (with_reducible first | exact HB.out | apply Zj | apply Ze | apply Zi | refine Zd ?_ GE226.out | refine Zd ?_ GE227.out | refine Zd ?_ GE228.out) | exact HB.out)))); have n2_ := Aside0.mk (Zp (g := gb226) (o := .cells #[.int .i64 a0_0, .slice A0_1 l0_1.length c0_1] 27 (0, 0)) (by (with_reducible repeat (first | refine Zg ?_ _ | refine Zh ?_ | refine Zf ?_ _)); exact BK226.out) hb); have n3_ := Aside0.mk (Zp (g := gb227) (o := .cells #[.int .i64 0, .slice none 0 0] 27 (0, 0)) (by (with_reducible repeat (first | refine Zg ?_ _ | refine Zh ?_ | refine Zf ?_ _)); exact BK227.out) hb); have n4_ := Aside0.mk (Zp (g := gb228) (o := .cells #[.int .i64 a0_0, u229001] 27 (0, 0)) (by (with_reducible repeat (first | refine Zg ?_ _ | refine Zh ?_ | refine Zf ?_ _)); exact BK228.out) hb); have n5_ := Aside0.mk (Zu (by repeat (first | (with_reducible first | exact HB.out | apply Zj | apply Ze | apply Zi | refine Zd ?_ GE226.out | refine Zd ?_ GE227.out | refine Zd ?_ GE228.out) | exact HB.out)) hb); clear HO_229001; clear BK226; clear BK227; clear BK228; clear HB; have HO_229001 := n0_; have HO293 := n1_; have BK226 := n2_; have BK227 := n3_; have BK228 := n4_; have HB := n5_; clear n0_ n1_ n2_ n3_ n4_ n5_; clear hb ho123; obtain ⟨Ao125, co125, eo125⟩ := Kd.R_slice HO293.out; subst eo125) | ((with_reducible refine gate_builtin (b := .append) (xs := #[.tmp 73, .tmp 77]) rfl ?_); at_builtin; refine Kd.S_append (Kd.slice 3 (Kd.int .i64)) (w0 := w) w.heap.size rfl (.tmp 73) (.tmp 77) 22 31 (.slice none 0 0) 24 rfl Try.underlying22 info31 rfl (by decide) (by omega) u229001 x229001_1 y291 [.slice Ao125 y291.length co125] (fun _ => True) (fun k_ => some k_ = (.slice Ao125 y291.length co125 : Value).ownBlock) rfl rfl ?aP (fun k_ hk_ => ((ZR (ok' := fun k_ => ((fun _ => True)) k_ ∧ some k_ ≠ (u229001 : Value).ownBlock) (Kd.R_apart' (HO293.out) (Kd.S_typed HO_229001.out) (by decide)) (fun k_ hk => ⟨trivial, hk.2⟩))).1 k_ hk_.symm) ?aF ?aO ?aB ?aS ?aL ?_; (case aP => exact Kd.M_row (ZR (Kd.R_tight rfl (ZR (ok' := fun k_ => ((fun _ => True)) k_ ∧ some k_ ≠ (u229001 : Value).ownBlock) (Kd.R_apart' (HO293.out) (Kd.S_typed HO_229001.out) (by decide)) (fun k_ hk => ⟨trivial, hk.2⟩))) (fun _ h_ => h_))); (case aB => exact (by repeat (first | (with_reducible first | exact HB.out | apply Zj | apply Ze | apply Zi | refine Zd ?_ GE226.out | refine Zd ?_ GE227.out | refine Zd ?_ GE228.out) | exact HB.out))); (case aF => exact (fun _ _ => trivial)); (case aO => exact (by (with_reducible repeat (first | apply Zn | apply Zm | apply Zo)); exact Zy HO_229001.out (fun k_ hk => ⟨trivial, fun e_ => hk.2 e_⟩))); (case aS => exact (Zs (by repeat (first | (with_reducible first | exact HB.out | apply Zj | apply Ze | apply Zi | refine Zd ?_ GE226.out | refine Zd ?_ GE227.out | refine Zd ?_ GE228.out) | exact HB.out)))); (case aL => have := LMc118.out; omega); intro v295 w124 ho hb hg hat; rw [← Ny294.out] at ho; have n0_ := Aside0.mk (ZS (g := gb226) (o := .cells #[.int .i64 a0_0, .slice A0_1 l0_1.length c0_1] 27 (0, 0)) (by (with_reducible repeat (first | refine Zg ?_ _ | refine Zh ?_ | refine Zf ?_ _)); exact BK226.out) hg (Kd.S_ne HO_229001.out BK226.out (by decide))); have n1_ := Aside0.mk (ZS (g := gb227) (o := .cells #[.int .i64 0, .slice none 0 0] 27 (0, 0)) (by (with_reducible repeat (first | refine Zg ?_ _ | refine Zh ?_ | refine Zf ?_ _)); exact BK227.out) hg (Kd.S_ne HO_229001.out BK227.out (by decide))); have n2_ := Aside0.mk (ZS (g := gb228) (o := .cells #[.int .i64 a0_0, u229001] 27 (0, 0)) (by (with_reducible repeat (first | refine Zg ?_ _ | refine Zh ?_ | refine Zf ?_ _)); exact BK228.out) hg (Kd.S_ne HO_229001.out BK228.out (by decide))); have n3_ := Aside0.mk (hb); have n4_ := Aside0.mk (ho); clear BK226; clear BK227; clear BK228; clear HB; clear HO_229001; clear HO293; have BK226 := n0_; have BK227 := n1_; have BK228 := n2_; have HB := n3_; have HO296 := n4_; clear n0_ n1_ n2_ n3_ n4_; clear ho hb hg hat; obtain ⟨Ao126, co126, eo126⟩ := Kd.S_slice HO296.out; subst eo126; have hcz127_0 : w124.cell? ⟨gb228, 0, none⟩ = some (.int .i64 a0_0) := (Zk BK228.out 0).trans rfl; have hcz127_1 : w124.cell? ⟨gb228, 1, none⟩ = some (u229001) := (Zk BK228.out 1).trans rfl; have hfz127_0 := Zl BK228.out 0; have hfz127_1 := Zl BK228.out 1))
         go_meet
         case rel => exact ⟨_, (y294), (.slice Ao126 y294.length co126), H', ⟨by have := HK1.out; have := HJ11.out; first | omega | exact Nat.le_refl _⟩, ⟨by (with_reducible repeat (first | apply Zn | apply Zm | apply Zo)); exact Zy (ZB (p := ⟨gb228, 1, none⟩) (ZJ HO296.out BK228.out (by decide)) (fun _ hk => hk.2) (.slice Ao126 y294.length co126)) (fun _ hk => trivial)⟩, ⟨by (with_reducible repeat (first | refine Zg ?_ _ | refine Zh ?_ | refine Zf ?_ _)); refine ZP ?_ NB226_228.out _; (with_reducible repeat (first | refine Zg ?_ _ | refine Zh ?_ | refine Zf ?_ _)); exact BK226.out⟩, ⟨by (with_reducible repeat (first | refine Zg ?_ _ | refine Zh ?_ | refine Zf ?_ _)); refine ZP ?_ NB227_228.out _; (with_reducible repeat (first | refine Zg ?_ _ | refine Zh ?_ | refine Zf ?_ _)); exact BK227.out⟩, ⟨by (with_reducible repeat (first | refine Zg ?_ _ | refine Zh ?_ | refine Zf ?_ _)); refine blk_put (cs := #[.int .i64 a0_0, u229001]) ?_ 1 _ rfl; (with_reducible repeat (first | refine Zg ?_ _ | refine Zh ?_ | refine Zf ?_ _)); exact BK228.out⟩, ⟨by repeat (first | (with_reducible first | exact HB.out | apply Zj | apply Ze | apply Zi | refine Zd ?_ GE226.out | refine Zd ?_ GE227.out | refine Zd ?_ GE228.out) | exact HB.out)⟩⟩
        ·rw [if_neg c118] at H
         exact absurd H (by simp)
      case rest =>
       clear HC116
       try clear c1
       try clear c2
       try clear p2
       try clear q2
       try clear hx2
       try clear qi2
       try clear c3
       try clear c6
       try clear p6
       try clear c9
       try clear c10
       try clear c11
       try clear c12
       try clear c22
       try clear c23
       try clear p23
       try clear q23
       try clear hx23
       try clear c24
       try clear p24
       try clear q24
       try clear hx24
       try clear qi24
       try clear p25
       try clear q25
       try clear hx25
       try clear qi25
       try clear c39
       try clear c64
       try clear c64b0
       try clear c64b1
       try clear p64
       try clear c65
       try clear c66
       try clear c66b0
       try clear c67
       try clear c68
       try clear c69
       try clear c90
       try clear c91
       try clear c92
       try clear c93
       try clear c103
       try clear c104
       try clear c105
       try clear c106
       try clear c117
       try clear c118
       try clear c119
       try clear c120
       try clear hcz107_0
       try clear hcz107_1
       try clear hcz121_0
       try clear hcz121_1
       try clear hcz127_0
       try clear hcz127_1
       try clear hcz94_0
       try clear hcz94_1
       try clear hfz107_0
       try clear hfz107_1
       try clear hfz121_0
       try clear hfz121_1
       try clear hfz127_0
       try clear hfz127_1
       try clear hfz94_0
       try clear hfz94_1
       try clear hx230_0
       try clear hx240_0
       try clear hx256_0
       try clear hx257_0
       try clear p230
       try clear p240
       try clear p256
       try clear p257
       try clear q230
       try clear q240
       try clear q256
       try clear q257
       obtain ⟨kq, x229001_115, u229001, HA, HJ115, HO_229001, BK226, BK227, BK228, HB⟩ := hcut
       cases kq with
       | zero => exact absurd HA.out (by simp [spec_AddAttack.j2])
       | succ kj115 =>
        have H := HA.out
        clear HA
        simp only [spec_AddAttack.j2] at H
        replace H := Option.bind_eq_some_iff.mp H
        obtain ⟨t297, A1280, H⟩ := H
        replace H : (if t297 = true then ((spec_IsGraph.f kj115 a0_0 x229001_115).bind fun t298 => (if t298 = true then (some (a0_0, x229001_115, true)) else ((spec_l4Copy.f kj115 a0_0 l0_1).bind fun bt299 => (some (bt299.1, bt299.2, false))))) else ((spec_l4Copy.f kj115 a0_0 l0_1).bind fun bt303 => (some (bt303.1, bt303.2, false)))) = some (r1, r2, r3) := H
        have A128 := Aside0.mk A1280
        clear A1280
        by_cases c129 : t297 = true
        ·subst c129
         have H1 : ((spec_IsGraph.f kj115 a0_0 x229001_115).bind fun t298 => (if t298 = true then (some (a0_0, x229001_115, true)) else ((spec_l4Copy.f kj115 a0_0 l0_1).bind fun bt299 => (some (bt299.1, bt299.2, false))))) = some (r1, r2, r3) := by rw [if_pos rfl] at H; exact H
         clear H
         have H := H1
         clear H1
         replace H := Option.bind_eq_some_iff.mp H
         obtain ⟨t298, A1300, H⟩ := H
         replace H : (if t298 = true then (some (a0_0, x229001_115, true)) else ((spec_l4Copy.f kj115 a0_0 l0_1).bind fun bt299 => (some (bt299.1, bt299.2, false)))) = some (r1, r2, r3) := H
         have A130 := Aside0.mk A1300
         clear A1300
         by_cases c131 : t298 = true
         ·subst c131
          have H1 : (some (a0_0, x229001_115, true)) = some (r1, r2, r3) := by rw [if_pos rfl] at H; exact H
          clear H
          have H := H1
          clear H1
          simp only [Option.some.injEq, Prod.mk.injEq] at H
          obtain ⟨rfl, rfl, rfl⟩ := H
          have hnb132 := NB226_227.out
          have hnc132 := NB227_226.out
          have hnb133 := NB226_228.out
          have hnc133 := NB228_226.out
          have hcz134_0 : wc.cell? ⟨gb226, 0, none⟩ = some (.int .i64 a0_0) := (Zk BK226.out 0).trans rfl
          have hcz134_1 : wc.cell? ⟨gb226, 1, none⟩ = some (.slice A0_1 l0_1.length c0_1) := (Zk BK226.out 1).trans rfl
          have hfz134_0 := Zl BK226.out 0
          have hfz134_1 := Zl BK226.out 1
          go_wp2_with (first | ((with_reducible refine ZA (f := 57) rfl ?_); refine goesL_ (some 81) rfl rfl Try.func57 (by kernel_rfl) rfl #[.agg #[.int .i64 a0_0, .slice A0_1 l0_1.length c0_1]] rfl (by (try simp only [List.map_toArray, List.map_cons, List.map_nil]); first | done | rfl | (simp only [List.length_drop, List.length_take]; rfl)) ?_; (with_reducible refine (spec_IsGraph.calls kj115 a0_0 _ _ l0_1 true _ ?side1 ?side2 A128.out).mono ?_); (case side1 => repeat (first | exact (ZG HR0_1.out HB.out) | (with_reducible refine Zw ?_ _) | (with_reducible refine Zv ?_ _) | (with_reducible refine Zz ?_))); (case side2 => exact HC0_1.out); rintro e w135 ⟨rfl, hb⟩; refine ⟨_, rfl, ?_⟩; have n0_ := Aside0.mk (ZC (by (with_reducible repeat (first | apply Zn | apply Zm | apply Zo)); exact HO_229001.out) hb); have n1_ := Aside0.mk (Zp (g := gb226) (o := .cells #[.int .i64 a0_0, .slice A0_1 l0_1.length c0_1] 27 (0, 0)) (by (with_reducible repeat (first | refine Zg ?_ _ | refine Zh ?_ | refine Zf ?_ _)); exact BK226.out) hb); have n2_ := Aside0.mk (Zp (g := gb227) (o := .cells #[.int .i64 0, .slice none 0 0] 27 (0, 0)) (by (with_reducible repeat (first | refine Zg ?_ _ | refine Zh ?_ | refine Zf ?_ _)); exact BK227.out) hb); have n3_ := Aside0.mk (Zp (g := gb228) (o := .cells #[.int .i64 a0_0, u229001] 27 (0, 0)) (by (with_reducible repeat (first | refine Zg ?_ _ | refine Zh ?_ | refine Zf ?_ _)); exact BK228.out) hb); have n4_ := Aside0.mk (Zu (by repeat (first | (with_reducible first | exact HB.out | apply Zj | apply Ze | apply Zi | refine Zd ?_ GE226.out | refine Zd ?_ GE227.out | refine Zd ?_ GE228.out) | exact HB.out)) hb); clear HO_229001; clear BK226; clear BK227; clear BK228; clear HB; have HO_229001 := n0_; have BK226 := n1_; have BK227 := n2_; have BK228 := n3_; have HB := n4_; clear n0_ n1_ n2_ n3_ n4_; (try clear hb); (try clear hb2); (try clear hk); (try clear hi); have hnb136 := NB228_227.out; have hnc136 := NB227_228.out; have hcz137_0 : w135.cell? ⟨gb228, 0, none⟩ = some (.int .i64 a0_0) := (Zk BK228.out 0).trans rfl; have hcz137_1 : w135.cell? ⟨gb228, 1, none⟩ = some (u229001) := (Zk BK228.out 1).trans rfl; have hfz137_0 := Zl BK228.out 0; have hfz137_1 := Zl BK228.out 1; obtain ⟨Ao138, co138, eo138⟩ := Kd.S_slice HO_229001.out; subst eo138) | (go_at_call 57; (with_reducible refine (spec_IsGraph.calls kj115 a0_0 _ _ x229001_115 true _ ?side1 ?side2 A130.out).mono ?_); (case side1 => repeat (first | exact (ZF HO_229001.out).2.2 | (with_reducible refine Zw ?_ _) | (with_reducible refine Zv ?_ _) | (with_reducible refine Zz ?_))); (case side2 => exact (ZF HO_229001.out).2.1); rintro e w139 ⟨rfl, hb⟩; have n0_ := Aside0.mk (ZC (by (with_reducible repeat (first | apply Zn | apply Zm | apply Zo)); exact HO_229001.out) hb); have n1_ := Aside0.mk (Zp (g := gb226) (o := .cells #[.int .i64 a0_0, .slice A0_1 l0_1.length c0_1] 27 (0, 0)) (by (with_reducible repeat (first | refine Zg ?_ _ | refine Zh ?_ | refine Zf ?_ _)); exact BK226.out) hb); have n2_ := Aside0.mk (Zp (g := gb227) (o := .cells #[.int .i64 0, .slice none 0 0] 27 (0, 0)) (by (with_reducible repeat (first | refine Zg ?_ _ | refine Zh ?_ | refine Zf ?_ _)); exact BK227.out) hb); have n3_ := Aside0.mk (Zp (g := gb228) (o := .cells #[.int .i64 a0_0, .slice Ao138 x229001_115.length co138] 27 (0, 0)) (by (with_reducible repeat (first | refine Zg ?_ _ | refine Zh ?_ | refine Zf ?_ _)); exact BK228.out) hb); have n4_ := Aside0.mk (Zu (by repeat (first | (with_reducible first | exact HB.out | apply Zj | apply Ze | apply Zi | refine Zd ?_ GE226.out | refine Zd ?_ GE227.out | refine Zd ?_ GE228.out) | exact HB.out)) hb); clear HO_229001; clear BK226; clear BK227; clear BK228; clear HB; have HO_229001 := n0_; have BK226 := n1_; have BK227 := n2_; have BK228 := n3_; have HB := n4_; clear n0_ n1_ n2_ n3_ n4_; (try clear hb); (try clear hb2); (try clear hk); (try clear hi); have hcz140_0 : w139.cell? ⟨gb228, 0, none⟩ = some (.int .i64 a0_0) := (Zk BK228.out 0).trans rfl; have hcz140_1 : w139.cell? ⟨gb228, 1, none⟩ = some (.slice Ao138 x229001_115.length co138) := (Zk BK228.out 1).trans rfl; have hfz140_0 := Zl BK228.out 0; have hfz140_1 := Zl BK228.out 1; have hcz141_0 : w139.cell? ⟨gb227, 0, none⟩ = some (.int .i64 0) := (Zk BK227.out 0).trans rfl; have hcz141_1 : w139.cell? ⟨gb227, 1, none⟩ = some (.slice none 0 0) := (Zk BK227.out 1).trans rfl; have hfz141_0 := Zl BK227.out 0; have hfz141_1 := Zl BK227.out 1))
          refine bodyPost_ret (results_ct rfl _ _ gb227 27 #[.int .i64 a0_0, .slice Ao138 x229001_115.length co138] (0, 0) _ rfl (by (with_reducible repeat (first | refine Zg ?_ _ | refine Zh ?_ | refine Zf ?_ _)); refine blk_put (cs := #[.int .i64 a0_0, .slice none 0 0]) ?_ 1 _ rfl; (with_reducible repeat (first | refine Zg ?_ _ | refine Zh ?_ | refine Zf ?_ _)); refine blk_put (cs := #[.int .i64 0, .slice none 0 0]) ?_ 0 _ rfl; (with_reducible repeat (first | refine Zg ?_ _ | refine Zh ?_ | refine Zf ?_ _)); exact BK227.out) Try.underlying27 rfl (by kernel_rfl)) rfl ?_
          exact ⟨_, by first | rfl | (simp [errW_none, errW_some] <;> rfl) | (simp [*, errW_none, errW_some] <;> rfl), by (with_reducible repeat (first | apply Zn | apply Zm | apply Zo)); exact Zy (ZB (p := ⟨gb227, 1, none⟩) (ZB (p := ⟨gb227, 0, none⟩) (ZJ HO_229001.out BK227.out (by decide)) (fun _ hk => hk.2) (.int .i64 a0_0)) (fun _ hk => hk.2) (.slice Ao138 x229001_115.length co138)) (fun _ hk => trivial), by repeat (first | (with_reducible first | exact HB.out | apply Zj | apply Ze | apply Zi | refine Zd ?_ GE226.out | refine Zd ?_ GE227.out | refine Zd ?_ GE228.out) | exact HB.out)⟩
         ·replace c131 := Bool.eq_false_iff.mpr c131
          subst c131
          have H1 : ((spec_l4Copy.f kj115 a0_0 l0_1).bind fun bt299 => (some (bt299.1, bt299.2, false))) = some (r1, r2, r3) := by rw [if_neg (show ¬ (false = true) by decide)] at H; exact H
          clear H
          have H := H1
          clear H1
          replace H := Option.bind_eq_some_iff.mp H
          obtain ⟨⟨t299, t300⟩, A1420, H⟩ := H
          replace H : (some (t299, t300, false)) = some (r1, r2, r3) := H
          have A142 := Aside0.mk A1420
          clear A1420
          simp only [Option.some.injEq, Prod.mk.injEq] at H
          obtain ⟨rfl, rfl, rfl⟩ := H
          have hnb143 := NB226_227.out
          have hnc143 := NB227_226.out
          have hnb144 := NB226_228.out
          have hnc144 := NB228_226.out
          have hcz145_0 : wc.cell? ⟨gb226, 0, none⟩ = some (.int .i64 a0_0) := (Zk BK226.out 0).trans rfl
          have hcz145_1 : wc.cell? ⟨gb226, 1, none⟩ = some (.slice A0_1 l0_1.length c0_1) := (Zk BK226.out 1).trans rfl
          have hfz145_0 := Zl BK226.out 0
          have hfz145_1 := Zl BK226.out 1
          go_wp2_with (first | ((with_reducible refine ZA (f := 57) rfl ?_); refine goesL_ (some 81) rfl rfl Try.func57 (by kernel_rfl) rfl #[.agg #[.int .i64 a0_0, .slice A0_1 l0_1.length c0_1]] rfl (by (try simp only [List.map_toArray, List.map_cons, List.map_nil]); first | done | rfl | (simp only [List.length_drop, List.length_take]; rfl)) ?_; (with_reducible refine (spec_IsGraph.calls kj115 a0_0 _ _ l0_1 true _ ?side1 ?side2 A128.out).mono ?_); (case side1 => repeat (first | exact (ZG HR0_1.out HB.out) | (with_reducible refine Zw ?_ _) | (with_reducible refine Zv ?_ _) | (with_reducible refine Zz ?_))); (case side2 => exact HC0_1.out); rintro e w146 ⟨rfl, hb⟩; refine ⟨_, rfl, ?_⟩; have n0_ := Aside0.mk (ZC (by (with_reducible repeat (first | apply Zn | apply Zm | apply Zo)); exact HO_229001.out) hb); have n1_ := Aside0.mk (Zp (g := gb226) (o := .cells #[.int .i64 a0_0, .slice A0_1 l0_1.length c0_1] 27 (0, 0)) (by (with_reducible repeat (first | refine Zg ?_ _ | refine Zh ?_ | refine Zf ?_ _)); exact BK226.out) hb); have n2_ := Aside0.mk (Zp (g := gb227) (o := .cells #[.int .i64 0, .slice none 0 0] 27 (0, 0)) (by (with_reducible repeat (first | refine Zg ?_ _ | refine Zh ?_ | refine Zf ?_ _)); exact BK227.out) hb); have n3_ := Aside0.mk (Zp (g := gb228) (o := .cells #[.int .i64 a0_0, u229001] 27 (0, 0)) (by (with_reducible repeat (first | refine Zg ?_ _ | refine Zh ?_ | refine Zf ?_ _)); exact BK228.out) hb); have n4_ := Aside0.mk (Zu (by repeat (first | (with_reducible first | exact HB.out | apply Zj | apply Ze | apply Zi | refine Zd ?_ GE226.out | refine Zd ?_ GE227.out | refine Zd ?_ GE228.out) | exact HB.out)) hb); clear HO_229001; clear BK226; clear BK227; clear BK228; clear HB; have HO_229001 := n0_; have BK226 := n1_; have BK227 := n2_; have BK228 := n3_; have HB := n4_; clear n0_ n1_ n2_ n3_ n4_; (try clear hb); (try clear hb2); (try clear hk); (try clear hi); have hnb147 := NB228_227.out; have hnc147 := NB227_228.out; have hcz148_0 : w146.cell? ⟨gb228, 0, none⟩ = some (.int .i64 a0_0) := (Zk BK228.out 0).trans rfl; have hcz148_1 : w146.cell? ⟨gb228, 1, none⟩ = some (u229001) := (Zk BK228.out 1).trans rfl; have hfz148_0 := Zl BK228.out 0; have hfz148_1 := Zl BK228.out 1; obtain ⟨Ao149, co149, eo149⟩ := Kd.S_slice HO_229001.out; subst eo149) | (go_at_call 57; (with_reducible refine (spec_IsGraph.calls kj115 a0_0 _ _ x229001_115 false _ ?side1 ?side2 A130.out).mono ?_); (case side1 => repeat (first | exact (ZF HO_229001.out).2.2 | (with_reducible refine Zw ?_ _) | (with_reducible refine Zv ?_ _) | (with_reducible refine Zz ?_))); (case side2 => exact (ZF HO_229001.out).2.1); rintro e w150 ⟨rfl, hb⟩; have n0_ := Aside0.mk (ZC (by (with_reducible repeat (first | apply Zn | apply Zm | apply Zo)); exact HO_229001.out) hb); have n1_ := Aside0.mk (Zp (g := gb226) (o := .cells #[.int .i64 a0_0, .slice A0_1 l0_1.length c0_1] 27 (0, 0)) (by (with_reducible repeat (first | refine Zg ?_ _ | refine Zh ?_ | refine Zf ?_ _)); exact BK226.out) hb); have n2_ := Aside0.mk (Zp (g := gb227) (o := .cells #[.int .i64 0, .slice none 0 0] 27 (0, 0)) (by (with_reducible repeat (first | refine Zg ?_ _ | refine Zh ?_ | refine Zf ?_ _)); exact BK227.out) hb); have n3_ := Aside0.mk (Zp (g := gb228) (o := .cells #[.int .i64 a0_0, .slice Ao149 x229001_115.length co149] 27 (0, 0)) (by (with_reducible repeat (first | refine Zg ?_ _ | refine Zh ?_ | refine Zf ?_ _)); exact BK228.out) hb); have n4_ := Aside0.mk (Zu (by repeat (first | (with_reducible first | exact HB.out | apply Zj | apply Ze | apply Zi | refine Zd ?_ GE226.out | refine Zd ?_ GE227.out | refine Zd ?_ GE228.out) | exact HB.out)) hb); clear HO_229001; clear BK226; clear BK227; clear BK228; clear HB; have HO_229001 := n0_; have BK226 := n1_; have BK227 := n2_; have BK228 := n3_; have HB := n4_; clear n0_ n1_ n2_ n3_ n4_; (try clear hb); (try clear hb2); (try clear hk); (try clear hi); have hcz151_0 : w150.cell? ⟨gb226, 0, none⟩ = some (.int .i64 a0_0) := (Zk BK226.out 0).trans rfl; have hcz151_1 : w150.cell? ⟨gb226, 1, none⟩ = some (.slice A0_1 l0_1.length c0_1) := (Zk BK226.out 1).trans rfl; have hfz151_0 := Zl BK226.out 0; have hfz151_1 := Zl BK226.out 1) | ((with_reducible refine ZA (f := 92) rfl ?_); refine goesL_ (some 89) rfl rfl Try.func92 (by kernel_rfl) rfl #[.agg #[.int .i64 a0_0, .slice A0_1 l0_1.length c0_1]] rfl (by (try simp only [List.map_toArray, List.map_cons, List.map_nil]); first | done | rfl | (simp only [List.length_drop, List.length_take]; rfl)) ?_; (with_reducible refine (spec_l4Copy.calls kj115 a0_0 _ _ l0_1 t299 t300 _ ?side1 ?side2 A142.out).mono ?_); (case side1 => repeat (first | exact (ZG HR0_1.out HB.out) | (with_reducible refine Zw ?_ _) | (with_reducible refine Zv ?_ _) | (with_reducible refine Zz ?_))); (case side2 => exact HC0_1.out); rintro e w152 ⟨v301, rfl, ho0, hb⟩; refine ⟨_, rfl, ?_⟩; have n0_ := Aside0.mk (ZK (by (with_reducible repeat (first | apply Zn | apply Zm | apply Zo)); exact HO_229001.out) (Kd.S_base ho0) hb); have n1_ := Aside0.mk (Kd.S_lower (Kd.S_new' ho0 (Kd.S_lt (by (with_reducible repeat (first | apply Zn | apply Zm | apply Zo)); exact HO_229001.out))) (Zs (by repeat (first | (with_reducible first | exact HB.out | apply Zj | apply Ze | apply Zi | refine Zd ?_ GE226.out | refine Zd ?_ GE227.out | refine Zd ?_ GE228.out) | exact HB.out)))); have n2_ := Aside0.mk (Zp (g := gb226) (o := .cells #[.int .i64 a0_0, .slice A0_1 l0_1.length c0_1] 27 (0, 0)) (by (with_reducible repeat (first | refine Zg ?_ _ | refine Zh ?_ | refine Zf ?_ _)); exact BK226.out) hb); have n3_ := Aside0.mk (Zp (g := gb227) (o := .cells #[.int .i64 0, .slice none 0 0] 27 (0, 0)) (by (with_reducible repeat (first | refine Zg ?_ _ | refine Zh ?_ | refine Zf ?_ _)); exact BK227.out) hb); have n4_ := Aside0.mk (Zp (g := gb228) (o := .cells #[.int .i64 a0_0, .slice Ao149 x229001_115.length co149] 27 (0, 0)) (by (with_reducible repeat (first | refine Zg ?_ _ | refine Zh ?_ | refine Zf ?_ _)); exact BK228.out) hb); have n5_ := Aside0.mk (Zu (by repeat (first | (with_reducible first | exact HB.out | apply Zj | apply Ze | apply Zi | refine Zd ?_ GE226.out | refine Zd ?_ GE227.out | refine Zd ?_ GE228.out) | exact HB.out)) hb); clear HO_229001; clear BK226; clear BK227; clear BK228; clear HB; have HO_229001 := n0_; have HO302 := n1_; have BK226 := n2_; have BK227 := n3_; have BK228 := n4_; have HB := n5_; clear n0_ n1_ n2_ n3_ n4_ n5_; (try clear hb); (try clear hb2); (try clear hk); (try clear hi); (try clear ho0); have hcz153_0 : w152.cell? ⟨gb227, 0, none⟩ = some (.int .i64 0) := (Zk BK227.out 0).trans rfl; have hcz153_1 : w152.cell? ⟨gb227, 1, none⟩ = some (.slice none 0 0) := (Zk BK227.out 1).trans rfl; have hfz153_0 := Zl BK227.out 0; have hfz153_1 := Zl BK227.out 1; obtain ⟨Ao154, co154, eo154⟩ := Kd.S_slice HO302.out; subst eo154))
          refine bodyPost_ret (results_ct rfl _ _ gb227 27 #[.int .i64 t299, .slice Ao154 t300.length co154] (0, 0) _ rfl (by (with_reducible repeat (first | refine Zg ?_ _ | refine Zh ?_ | refine Zf ?_ _)); refine blk_put (cs := #[.int .i64 t299, .slice none 0 0]) ?_ 1 _ rfl; (with_reducible repeat (first | refine Zg ?_ _ | refine Zh ?_ | refine Zf ?_ _)); refine blk_put (cs := #[.int .i64 0, .slice none 0 0]) ?_ 0 _ rfl; (with_reducible repeat (first | refine Zg ?_ _ | refine Zh ?_ | refine Zf ?_ _)); exact BK227.out) Try.underlying27 rfl (by kernel_rfl)) rfl ?_
          exact ⟨_, by first | rfl | (simp [errW_none, errW_some] <;> rfl) | (simp [*, errW_none, errW_some] <;> rfl), by (with_reducible repeat (first | apply Zn | apply Zm | apply Zo)); exact Zy (ZB (p := ⟨gb227, 1, none⟩) (ZB (p := ⟨gb227, 0, none⟩) (ZJ HO302.out BK227.out (by decide)) (fun _ hk => hk.2) (.int .i64 t299)) (fun _ hk => hk.2) (.slice Ao154 t300.length co154)) (fun _ hk => trivial), by repeat (first | (with_reducible first | exact HB.out | apply Zj | apply Ze | apply Zi | refine Zd ?_ GE226.out | refine Zd ?_ GE227.out | refine Zd ?_ GE228.out) | exact HB.out)⟩
        ·replace c129 := Bool.eq_false_iff.mpr c129
         subst c129
         have H1 : ((spec_l4Copy.f kj115 a0_0 l0_1).bind fun bt303 => (some (bt303.1, bt303.2, false))) = some (r1, r2, r3) := by rw [if_neg (show ¬ (false = true) by decide)] at H; exact H
         clear H
         have H := H1
         clear H1
         replace H := Option.bind_eq_some_iff.mp H
         obtain ⟨⟨t303, t304⟩, A1550, H⟩ := H
         replace H : (some (t303, t304, false)) = some (r1, r2, r3) := H
         have A155 := Aside0.mk A1550
         clear A1550
         simp only [Option.some.injEq, Prod.mk.injEq] at H
         obtain ⟨rfl, rfl, rfl⟩ := H
         have hnb156 := NB226_227.out
         have hnc156 := NB227_226.out
         have hnb157 := NB226_228.out
         have hnc157 := NB228_226.out
         have hcz158_0 : wc.cell? ⟨gb226, 0, none⟩ = some (.int .i64 a0_0) := (Zk BK226.out 0).trans rfl
         have hcz158_1 : wc.cell? ⟨gb226, 1, none⟩ = some (.slice A0_1 l0_1.length c0_1) := (Zk BK226.out 1).trans rfl
         have hfz158_0 := Zl BK226.out 0
         have hfz158_1 := Zl BK226.out 1
         go_wp2_with (first | ((with_reducible refine ZA (f := 57) rfl ?_); refine goesL_ (some 81) rfl rfl Try.func57 (by kernel_rfl) rfl #[.agg #[.int .i64 a0_0, .slice A0_1 l0_1.length c0_1]] rfl (by (try simp only [List.map_toArray, List.map_cons, List.map_nil]); first | done | rfl | (simp only [List.length_drop, List.length_take]; rfl)) ?_; (with_reducible refine (spec_IsGraph.calls kj115 a0_0 _ _ l0_1 false _ ?side1 ?side2 A128.out).mono ?_); (case side1 => repeat (first | exact (ZG HR0_1.out HB.out) | (with_reducible refine Zw ?_ _) | (with_reducible refine Zv ?_ _) | (with_reducible refine Zz ?_))); (case side2 => exact HC0_1.out); rintro e w159 ⟨rfl, hb⟩; refine ⟨_, rfl, ?_⟩; have n0_ := Aside0.mk (ZC (by (with_reducible repeat (first | apply Zn | apply Zm | apply Zo)); exact HO_229001.out) hb); have n1_ := Aside0.mk (Zp (g := gb226) (o := .cells #[.int .i64 a0_0, .slice A0_1 l0_1.length c0_1] 27 (0, 0)) (by (with_reducible repeat (first | refine Zg ?_ _ | refine Zh ?_ | refine Zf ?_ _)); exact BK226.out) hb); have n2_ := Aside0.mk (Zp (g := gb227) (o := .cells #[.int .i64 0, .slice none 0 0] 27 (0, 0)) (by (with_reducible repeat (first | refine Zg ?_ _ | refine Zh ?_ | refine Zf ?_ _)); exact BK227.out) hb); have n3_ := Aside0.mk (Zp (g := gb228) (o := .cells #[.int .i64 a0_0, u229001] 27 (0, 0)) (by (with_reducible repeat (first | refine Zg ?_ _ | refine Zh ?_ | refine Zf ?_ _)); exact BK228.out) hb); have n4_ := Aside0.mk (Zu (by repeat (first | (with_reducible first | exact HB.out | apply Zj | apply Ze | apply Zi | refine Zd ?_ GE226.out | refine Zd ?_ GE227.out | refine Zd ?_ GE228.out) | exact HB.out)) hb); clear HO_229001; clear BK226; clear BK227; clear BK228; clear HB; have HO_229001 := n0_; have BK226 := n1_; have BK227 := n2_; have BK228 := n3_; have HB := n4_; clear n0_ n1_ n2_ n3_ n4_; (try clear hb); (try clear hb2); (try clear hk); (try clear hi); have hcz160_0 : w159.cell? ⟨gb226, 0, none⟩ = some (.int .i64 a0_0) := (Zk BK226.out 0).trans rfl; have hcz160_1 : w159.cell? ⟨gb226, 1, none⟩ = some (.slice A0_1 l0_1.length c0_1) := (Zk BK226.out 1).trans rfl; have hfz160_0 := Zl BK226.out 0; have hfz160_1 := Zl BK226.out 1) | ((with_reducible refine ZA (f := 92) rfl ?_); refine goesL_ (some 89) rfl rfl Try.func92 (by kernel_rfl) rfl #[.agg #[.int .i64 a0_0, .slice A0_1 l0_1.length c0_1]] rfl (by (try simp only [List.map_toArray, List.map_cons, List.map_nil]); first | done | rfl | (simp only [List.length_drop, List.length_take]; rfl)) ?_; (with_reducible refine (spec_l4Copy.calls kj115 a0_0 _ _ l0_1 t303 t304 _ ?side1 ?side2 A155.out).mono ?_); (case side1 => repeat (first | exact (ZG HR0_1.out HB.out) | (with_reducible refine Zw ?_ _) | (with_reducible refine Zv ?_ _) | (with_reducible refine Zz ?_))); (case side2 => exact HC0_1.out); rintro e w161 ⟨v305, rfl, ho0, hb⟩; refine ⟨_, rfl, ?_⟩; have n0_ := Aside0.mk (ZK (by (with_reducible repeat (first | apply Zn | apply Zm | apply Zo)); exact HO_229001.out) (Kd.S_base ho0) hb); have n1_ := Aside0.mk (Kd.S_lower (Kd.S_new' ho0 (Kd.S_lt (by (with_reducible repeat (first | apply Zn | apply Zm | apply Zo)); exact HO_229001.out))) (Zs (by repeat (first | (with_reducible first | exact HB.out | apply Zj | apply Ze | apply Zi | refine Zd ?_ GE226.out | refine Zd ?_ GE227.out | refine Zd ?_ GE228.out) | exact HB.out)))); have n2_ := Aside0.mk (Zp (g := gb226) (o := .cells #[.int .i64 a0_0, .slice A0_1 l0_1.length c0_1] 27 (0, 0)) (by (with_reducible repeat (first | refine Zg ?_ _ | refine Zh ?_ | refine Zf ?_ _)); exact BK226.out) hb); have n3_ := Aside0.mk (Zp (g := gb227) (o := .cells #[.int .i64 0, .slice none 0 0] 27 (0, 0)) (by (with_reducible repeat (first | refine Zg ?_ _ | refine Zh ?_ | refine Zf ?_ _)); exact BK227.out) hb); have n4_ := Aside0.mk (Zp (g := gb228) (o := .cells #[.int .i64 a0_0, u229001] 27 (0, 0)) (by (with_reducible repeat (first | refine Zg ?_ _ | refine Zh ?_ | refine Zf ?_ _)); exact BK228.out) hb); have n5_ := Aside0.mk (Zu (by repeat (first | (with_reducible first | exact HB.out | apply Zj | apply Ze | apply Zi | refine Zd ?_ GE226.out | refine Zd ?_ GE227.out | refine Zd ?_ GE228.out) | exact HB.out)) hb); clear HO_229001; clear BK226; clear BK227; clear BK228; clear HB; have HO_229001 := n0_; have HO306 := n1_; have BK226 := n2_; have BK227 := n3_; have BK228 := n4_; have HB := n5_; clear n0_ n1_ n2_ n3_ n4_ n5_; (try clear hb); (try clear hb2); (try clear hk); (try clear hi); (try clear ho0); have hnb162 := NB227_228.out; have hnc162 := NB228_227.out; have hcz163_0 : w161.cell? ⟨gb227, 0, none⟩ = some (.int .i64 0) := (Zk BK227.out 0).trans rfl; have hcz163_1 : w161.cell? ⟨gb227, 1, none⟩ = some (.slice none 0 0) := (Zk BK227.out 1).trans rfl; have hfz163_0 := Zl BK227.out 0; have hfz163_1 := Zl BK227.out 1; obtain ⟨Ao164, co164, eo164⟩ := Kd.S_slice HO306.out; subst eo164))
         refine bodyPost_ret (results_ct rfl _ _ gb227 27 #[.int .i64 t303, .slice Ao164 t304.length co164] (0, 0) _ rfl (by (with_reducible repeat (first | refine Zg ?_ _ | refine Zh ?_ | refine Zf ?_ _)); refine blk_put (cs := #[.int .i64 t303, .slice none 0 0]) ?_ 1 _ rfl; (with_reducible repeat (first | refine Zg ?_ _ | refine Zh ?_ | refine Zf ?_ _)); refine blk_put (cs := #[.int .i64 0, .slice none 0 0]) ?_ 0 _ rfl; (with_reducible repeat (first | refine Zg ?_ _ | refine Zh ?_ | refine Zf ?_ _)); exact BK227.out) Try.underlying27 rfl (by kernel_rfl)) rfl ?_
         exact ⟨_, by first | rfl | (simp [errW_none, errW_some] <;> rfl) | (simp [*, errW_none, errW_some] <;> rfl), by (with_reducible repeat (first | apply Zn | apply Zm | apply Zo)); exact Zy (ZB (p := ⟨gb227, 1, none⟩) (ZB (p := ⟨gb227, 0, none⟩) (ZJ HO306.out BK227.out (by decide)) (fun _ hk => hk.2) (.int .i64 t303)) (fun _ hk => hk.2) (.slice Ao164 t304.length co164)) (fun _ hk => trivial), by repeat (first | (with_reducible first | exact HB.out | apply Zj | apply Ze | apply Zi | refine Zd ?_ GE226.out | refine Zd ?_ GE227.out | refine Zd ?_ GE228.out) | exact HB.out)⟩

end Go.Proofs.Ytdlobolnajcfnaa.PFnExactRenamed
