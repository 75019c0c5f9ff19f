-- Written by a program of this session (hooks of mine on the print): Lean checks it.
import Derived.Test.YtdlobolnajcfnaaPFnGamesx0
import Derived.Test.YtdlobolnajcfnaaPFnGamesx10
import Derived.Test.YtdlobolnajcfnaaPFnGamesx11
namespace Go.Proofs.Ytdlobolnajcfnaa.PFnGames
open Go.RowKit Go.Proofs.YtdlobolnajcfnaaW.PrintWords Go.Proofs.YtdlobolnajcfnaaW.PrintLast Go.Proofs.YtdlobolnajcfnaaW.PrintMore
attribute [local go_sem] max2_int min2_int max_two min_two max_three min_three max_four min_four   -- for this text's walks alone
set_option linter.unusedVariables false
set_option linter.unusedSimpArgs false

/-! ### spec_AddAttack: function 102 -/
mutual
def spec_AddAttack.l0 : Nat → Int → Int → Bool → Int → Int → List (List Int) → Int → List (List Int) → Option (Int × (List (List Int)) × Bool)
 | 0, _, _, _, _, _, _, _, _ => none
 | k + 1, x1, x2, x9, x10, x264000, x264001, x266000, x266001 => if x10 < (x264001.length : Int) then ((spec_IsGraph.f k x264000 x264001).bind fun t266 => (spec_AddAttack.j1 k x1 x2 x9 x10 t266 x264000 x264001 x266000 x266001)) else (spec_AddAttack.j1 k x1 x2 x9 x10 false x264000 x264001 x266000 x266001)
def spec_AddAttack.j1 : Nat → Int → Int → Bool → Int → Bool → Int → List (List Int) → Int → List (List Int) → Option (Int × (List (List Int)) × Bool)
 | 0, _, _, _, _, _, _, _, _, _ => none
 | k + 1, x1, x2, x9, x10, x23, x264000, x264001, x266000, x266001 => if x23 = true then (if 0 ≤ x10 then (if x10 < (x264001.length : Int) then (if x9 = true then ((some (([] : List Int) : List Int)).bind fun y268 => (if y268.length + (rd_L1 x264001 x10).length < 17592186044416 then (if x266001.length < 5864062014805 then (spec_AddAttack.l0 k x1 x2 x9 (wrap64 (x10 + 1)) x264000 x264001 x266000 (x266001 ++ [(y268 ++ (rd_L1 x264001 x10))])) else (none)) else (none))) else (if 0 < ((rd_L1 x264001 x10).length : Int) then (if (rd (rd_L1 x264001 x10) 0) > x1 then (if x266001.length < 5864062014805 then ((some (x266001 ++ [(([x1, x2] : List Int))] : List (List Int))).bind fun y281 => ((some (([] : List Int) : List Int)).bind fun y284 => (if y284.length + (rd_L1 x264001 x10).length < 17592186044416 then (if y281.length < 5864062014805 then (spec_AddAttack.l0 k x1 x2 true (wrap64 (x10 + 1)) x264000 x264001 x266000 (y281 ++ [(y284 ++ (rd_L1 x264001 x10))])) else (none)) else (none)))) else (none)) else (if (rd (rd_L1 x264001 x10) 0) = x1 then (if 1 < ((rd_L1 x264001 x10).length : Int) then (if (rd (rd_L1 x264001 x10) 1) > x2 then (if x266001.length < 5864062014805 then ((some (x266001 ++ [(([x1, x2] : List Int))] : List (List Int))).bind fun y298 => ((some (([] : List Int) : List Int)).bind fun y301 => (if y301.length + (rd_L1 x264001 x10).length < 17592186044416 then (if y298.length < 5864062014805 then (spec_AddAttack.l0 k x1 x2 true (wrap64 (x10 + 1)) x264000 x264001 x266000 (y298 ++ [(y301 ++ (rd_L1 x264001 x10))])) else (none)) else (none)))) else (none)) else ((some (([] : List Int) : List Int)).bind fun y310 => (if y310.length + (rd_L1 x264001 x10).length < 17592186044416 then (if x266001.length < 5864062014805 then (spec_AddAttack.l0 k x1 x2 x9 (wrap64 (x10 + 1)) x264000 x264001 x266000 (x266001 ++ [(y310 ++ (rd_L1 x264001 x10))])) else (none)) else (none)))) else (none)) else ((some (([] : List Int) : List Int)).bind fun y319 => (if y319.length + (rd_L1 x264001 x10).length < 17592186044416 then (if x266001.length < 5864062014805 then (spec_AddAttack.l0 k x1 x2 x9 (wrap64 (x10 + 1)) x264000 x264001 x266000 (x266001 ++ [(y319 ++ (rd_L1 x264001 x10))])) else (none)) else (none))))) else (none))) else (none)) else (none)) else (if x9 = true then (spec_AddAttack.j2 k x264000 x264001 x266000 x266001) else (if x266001.length < 5864062014805 then (spec_AddAttack.j2 k x264000 x264001 x266000 (x266001 ++ [(([x1, x2] : List Int))])) else (none)))
def spec_AddAttack.j2 : Nat → Int → List (List Int) → Int → List (List Int) → Option (Int × (List (List Int)) × Bool)
 | 0, _, _, _, _ => none
 | k + 1, x264000, x264001, x266000, x266001 => (spec_IsGraph.f k x264000 x264001).bind fun t334 => (if t334 = true then ((spec_IsGraph.f k x266000 x266001).bind fun t335 => (if t335 = true then (some (x266000, x266001, true)) else ((spec_l4Copy.f k x264000 x264001).bind fun bt336 => (some (bt336.1, bt336.2, false))))) else ((spec_l4Copy.f k x264000 x264001).bind fun bt340 => (some (bt340.1, bt340.2, false))))
end
def spec_AddAttack.f (k : Nat) (a0_0 : Int) (l0_1 : List (List Int)) (a1 : Int) (a2 : Int) : Option (Int × (List (List Int)) × Bool) := spec_AddAttack.l0 k a1 a2 false 0 a0_0 l0_1 a0_0 ([] : List (List Int))
theorem spec_AddAttack.mono_l : ∀ k, (∀ y0 y1 y2 y3 y4 y5 y6 y7, LeO (spec_AddAttack.l0 k y0 y1 y2 y3 y4 y5 y6 y7) (spec_AddAttack.l0 (k + 1) y0 y1 y2 y3 y4 y5 y6 y7)) ∧ (∀ y0 y1 y2 y3 y4 y5 y6 y7 y8, LeO (spec_AddAttack.j1 k y0 y1 y2 y3 y4 y5 y6 y7 y8) (spec_AddAttack.j1 (k + 1) y0 y1 y2 y3 y4 y5 y6 y7 y8)) ∧ (∀ y0 y1 y2 y3, LeO (spec_AddAttack.j2 k y0 y1 y2 y3) (spec_AddAttack.j2 (k + 1) y0 y1 y2 y3))
 | 0 => ⟨fun _ _ _ _ _ _ _ _ r h => by simp [spec_AddAttack.l0] at h, fun _ _ _ _ _ _ _ _ _ r h => by simp [spec_AddAttack.j1] at h, fun _ _ _ _ r h => by simp [spec_AddAttack.j2] at h⟩
 | k + 1 => by
  obtain ⟨ih0, ih1, ih2⟩ := spec_AddAttack.mono_l k
  refine ⟨?_, ?_, ?_⟩
  ·intro y0 y1 y2 y3 y4 y5 y6 y7
   unfold spec_AddAttack.l0
   repeat' first
   | (with_reducible exact ih0 _ _ _ _ _ _ _ _)
   | (with_reducible exact ih1 _ _ _ _ _ _ _ _ _)
   | (with_reducible exact ih2 _ _ _ _)
   | (with_reducible exact spec_IsGraph.mono _ _ _)
   | (with_reducible exact spec_l4Copy.mono _ _ _)
   | (with_reducible exact ZJ _)
   | (with_reducible exact Zn _)
   | (with_reducible refine Zt ?_ ?_)
   | (with_reducible refine Zo ?_ (fun _ => ?_))
   | exact ih0 _ _ _ _ _ _ _ _
   | exact ih1 _ _ _ _ _ _ _ _ _
   | exact ih2 _ _ _ _
   | exact spec_IsGraph.mono _ _ _
   | exact spec_l4Copy.mono _ _ _
   | exact Zn _
   | refine Zt ?_ ?_
   | refine Zo ?_ (fun _ => ?_)
  ·intro y0 y1 y2 y3 y4 y5 y6 y7 y8
   unfold spec_AddAttack.j1
   repeat' first
   | (with_reducible exact ih0 _ _ _ _ _ _ _ _)
   | (with_reducible exact ih1 _ _ _ _ _ _ _ _ _)
   | (with_reducible exact ih2 _ _ _ _)
   | (with_reducible exact spec_IsGraph.mono _ _ _)
   | (with_reducible exact spec_l4Copy.mono _ _ _)
   | (with_reducible exact ZJ _)
   | (with_reducible exact Zn _)
   | (with_reducible refine Zt ?_ ?_)
   | (with_reducible refine Zo ?_ (fun _ => ?_))
   | exact ih0 _ _ _ _ _ _ _ _
   | exact ih1 _ _ _ _ _ _ _ _ _
   | exact ih2 _ _ _ _
   | exact spec_IsGraph.mono _ _ _
   | exact spec_l4Copy.mono _ _ _
   | exact Zn _
   | refine Zt ?_ ?_
   | refine Zo ?_ (fun _ => ?_)
  ·intro y0 y1 y2 y3
   unfold spec_AddAttack.j2
   repeat' first
   | (with_reducible exact ih0 _ _ _ _ _ _ _ _)
   | (with_reducible exact ih1 _ _ _ _ _ _ _ _ _)
   | (with_reducible exact ih2 _ _ _ _)
   | (with_reducible exact spec_IsGraph.mono _ _ _)
   | (with_reducible exact spec_l4Copy.mono _ _ _)
   | (with_reducible exact ZJ _)
   | (with_reducible exact Zn _)
   | (with_reducible refine Zt ?_ ?_)
   | (with_reducible refine Zo ?_ (fun _ => ?_))
   | exact ih0 _ _ _ _ _ _ _ _
   | exact ih1 _ _ _ _ _ _ _ _ _
   | exact ih2 _ _ _ _
   | exact spec_IsGraph.mono _ _ _
   | exact spec_l4Copy.mono _ _ _
   | exact Zn _
   | refine Zt ?_ ?_
   | refine Zo ?_ (fun _ => ?_)
theorem spec_AddAttack.mono : ∀ a0 a1 a2 a3 k, LeO (spec_AddAttack.f k a0 a1 a2 a3) (spec_AddAttack.f (k + 1) a0 a1 a2 a3) := by
 intro a0 a1 a2 a3 k
 obtain ⟨ih0, ih1, ih2⟩ := spec_AddAttack.mono_l k
 unfold spec_AddAttack.f
 repeat' first
   | (with_reducible exact ih0 _ _ _ _ _ _ _ _)
   | (with_reducible exact ih1 _ _ _ _ _ _ _ _ _)
   | (with_reducible exact ih2 _ _ _ _)
   | (with_reducible exact spec_IsGraph.mono _ _ _)
   | (with_reducible exact spec_l4Copy.mono _ _ _)
   | (with_reducible exact ZJ _)
   | (with_reducible exact Zn _)
   | (with_reducible refine Zt ?_ ?_)
   | (with_reducible refine Zo ?_ (fun _ => ?_))
   | exact ih0 _ _ _ _ _ _ _ _
   | exact ih1 _ _ _ _ _ _ _ _ _
   | exact ih2 _ _ _ _
   | exact spec_IsGraph.mono _ _ _
   | exact spec_l4Copy.mono _ _ _
   | exact Zn _
   | refine Zt ?_ ?_
   | refine Zo ?_ (fun _ => ?_)
def spec_AddAttack.T10 : Bool × List (List Nat × List Nat) := (true, [([], []), ([0], [0]), ([], []), ([], []), ([2, 3], [2, 3]), ([4], [4]), ([1, 5, 4], [1, 5]), ([0, 1, 2, 3, 4, 5, 6], []), ([7, 6, 6, 0, 1, 2, 3, 4, 5, 6], [6, 7])])
def spec_AddAttack.B10 : List Nat := [0, 1, 0, 0, 12, 28, 63, 127, 255]
theorem spec_AddAttack.tab10 : rtab .any (opsOf Try.f102 10) = spec_AddAttack.T10 := by kernel_rfl
theorem spec_AddAttack.bits10 : waitsOk spec_AddAttack.T10.2 spec_AddAttack.B10 = true := by kernel_rfl
set_option maxHeartbeats 8000000 in
set_option maxRecDepth 100000 in
theorem spec_AddAttack.calls (k : Nat) (a0_0 : Int) (A0_1 : Option Addr) (c0_1 : Nat) (l0_1 : List (List Int)) (a1 : Int) (a2 : Int) (r1 : Int) (r2 : List (List Int)) (r3 : Bool) (w : World) (hr0_1 : Kd.C (Kd.slice 3 (Kd.int .i64)) w A0_1 l0_1.length l0_1) (hc0_1 : l0_1.length ≤ c0_1) (h : spec_AddAttack.f k a0_0 l0_1 a1 a2 = some (r1, r2, r3)) :
  Calls Try.prog 102 #[.agg #[.int .i64 a0_0, .slice A0_1 l0_1.length c0_1], .int .i64 a1, .int .i64 a2] w fun e w' => ∃ v1_ : Value, e = .returned (.tuple #[.agg #[.int .i64 r1, v1_], .bool r3]) ∧ Kd.S (Kd.slice 3 (Kd.int .i64)) 31 w' w.heap.size (fun _ => True) v1_ r2 ∧ Below w.heap.size w w' := by
 have hu27 := Try.underlying27
 have HR0_1 := Aside0.mk hr0_1
 have HC0_1 := Aside0.mk hc0_1
 clear hr0_1 hc0_1
 have HB := Aside0.mk (Below.refl w.heap.size w)
 have H : (spec_AddAttack.l0 k a1 a2 false 0 a0_0 l0_1 a0_0 ([] : List (List Int))) = some (r1, r2, r3) := h
 clear h
 have H' := Aside0.mk H
 clear H
 go_enter Try.func102, Try.ntmps102
 go_wp2_with (first | ((with_reducible refine ZD (N := 3) rfl ?_); refine ZH ?hg (N := 3) ?hd (cs := #[.int .i64 a0_0, .slice A0_1 l0_1.length c0_1]) (t := 27) ?hr ?_; (case hd => rfl); (case hg => rfl); (case hr => first | (go_simp; done) | (go_simp; rfl)); intro gb263 hg w4 hbox hb; have BK263 := Aside0.mk (hbox); have GW263 := Aside0.mk ((hz_ hg : w.heap.size ≤ gb263)); have GE263 := Aside0.mk ((hz_ hg : w.heap.size ≤ gb263)); replace HB := Aside0.mk (Ze hB_ hb); clear hb hbox hg) | ((with_reducible refine ZD (N := 6) rfl ?_); refine ZH ?hg (N := 6) ?hd (cs := #[.int .i64 0, .slice none 0 0]) (t := 27) ?hr ?_; (case hd => rfl); (case hg => rfl); (case hr => first | (go_simp; done) | (go_simp; rfl)); intro gb264 hg w5 hbox hb; have BK264 := Aside0.mk (hbox); have GW264 := Aside0.mk ((hz_ hg : w.heap.size ≤ gb264)); have GE264 := Aside0.mk ((hz_ hg : w.heap.size ≤ gb264)); replace HB := Aside0.mk (Ze hB_ hb); have NB263_264 := Aside0.mk ((by rw [hg]; exact Nat.ne_of_lt (blk_lt (g := gb263) (o := .cells #[.int .i64 a0_0, .slice A0_1 l0_1.length c0_1] 27 (0, 0)) (bk_ BK263.out)) : gb263 ≠ gb264)); have NB264_263 := Aside0.mk ((by rw [hg]; exact Nat.ne_of_gt (blk_lt (g := gb263) (o := .cells #[.int .i64 a0_0, .slice A0_1 l0_1.length c0_1] 27 (0, 0)) (bk_ BK263.out)) : gb264 ≠ gb263)); replace BK263 := Aside0.mk (Zc (g := gb263) (o := .cells #[.int .i64 a0_0, .slice A0_1 l0_1.length c0_1] 27 (0, 0)) (bk_ BK263.out) hb); clear hb hbox hg; have hnb6 := NB263_264.out; have hnc6 := NB264_263.out; have hcz7_0 : w5.cell? ⟨gb263, 0, none⟩ = some (.int .i64 a0_0) := (Za BK263.out 0).trans rfl; have hcz7_1 : w5.cell? ⟨gb263, 1, none⟩ = some (.slice A0_1 l0_1.length c0_1) := (Za BK263.out 1).trans rfl; have hfz7_0 := Zb BK263.out 0; have hfz7_1 := Zb BK263.out 1) | ((with_reducible refine ZD (N := 8) rfl ?_); refine ZH ?hg (N := 8) ?hd (cs := #[.int .i64 0, .slice none 0 0]) (t := 27) ?hr ?_; (case hd => rfl); (case hg => rfl); (case hr => first | (go_simp; done) | (go_simp; rfl)); intro gb265 hg w8 hbox hb; have BK265 := Aside0.mk (hbox); have GW265 := Aside0.mk ((hz_ hg : w.heap.size ≤ gb265)); have GE265 := Aside0.mk ((hz_ hg : w.heap.size ≤ gb265)); replace HB := Aside0.mk (Ze hB_ hb); have NB263_265 := Aside0.mk ((by rw [hg]; exact Nat.ne_of_lt (blk_lt (g := gb263) (o := .cells #[.int .i64 a0_0, .slice A0_1 l0_1.length c0_1] 27 (0, 0)) (bk_ BK263.out)) : gb263 ≠ gb265)); have NB265_263 := Aside0.mk ((by rw [hg]; exact Nat.ne_of_gt (blk_lt (g := gb263) (o := .cells #[.int .i64 a0_0, .slice A0_1 l0_1.length c0_1] 27 (0, 0)) (bk_ BK263.out)) : gb265 ≠ gb263)); replace BK263 := Aside0.mk (Zc (g := gb263) (o := .cells #[.int .i64 a0_0, .slice A0_1 l0_1.length c0_1] 27 (0, 0)) (bk_ BK263.out) hb); have NB264_265 := Aside0.mk ((by rw [hg]; exact Nat.ne_of_lt (blk_lt (g := gb264) (o := .cells #[.int .i64 0, .slice none 0 0] 27 (0, 0)) (bk_ BK264.out)) : gb264 ≠ gb265)); have NB265_264 := Aside0.mk ((by rw [hg]; exact Nat.ne_of_gt (blk_lt (g := gb264) (o := .cells #[.int .i64 0, .slice none 0 0] 27 (0, 0)) (bk_ BK264.out)) : gb265 ≠ gb264)); replace BK264 := Aside0.mk (Zc (g := gb264) (o := .cells #[.int .i64 0, .slice none 0 0] 27 (0, 0)) (bk_ BK264.out) hb); clear hb hbox hg; have hnb9 := NB265_263.out; have hnc9 := NB263_265.out; have hnb10 := NB265_264.out; have hnc10 := NB264_265.out; have hcz11_0 : w8.cell? ⟨gb265, 0, none⟩ = some (.int .i64 0) := (Za BK265.out 0).trans rfl; have hcz11_1 : w8.cell? ⟨gb265, 1, none⟩ = some (.slice none 0 0) := (Za BK265.out 1).trans rfl; have hfz11_0 := Zb BK265.out 0; have hfz11_1 := Zb BK265.out 1))
 go_loopg [9, 10] k (fun kq v9 v10 w' => ∃ (x9_1 : Bool) (x10_1 : Int) (x266001_1 : List (List Int)) (u266001 : Value), v9 = .bool x9_1 ∧ v10 = .int .i64 x10_1 ∧ Aside0 (spec_AddAttack.l0 kq a1 a2 x9_1 x10_1 a0_0 l0_1 a0_0 x266001_1 = some (r1, r2, r3)) ∧ Aside0 (kq ≤ k) ∧ Aside0 (Kd.S (Kd.slice 3 (Kd.int .i64)) 31 w' w.heap.size (fun _ => True) u266001 x266001_1) ∧ Aside0 (w'.heap[gb263]? = some (.cells #[.int .i64 a0_0, (.slice A0_1 l0_1.length c0_1)] 27 (0, 0))) ∧ Aside0 (w'.heap[gb264]? = some (.cells #[.int .i64 0, (.slice none 0 0)] 27 (0, 0))) ∧ Aside0 (w'.heap[gb265]? = some (.cells #[.int .i64 a0_0, u266001] 27 (0, 0))) ∧ Aside0 (Below w.heap.size w w'))
 case atStart => exact ⟨(false), (0), (([] : List (List Int))), (.slice none 0 0), sm_, sm_, H', ⟨Nat.le_refl _⟩, ⟨by first | exact Kd.S_nil _ _ _ _ _ | exact Kd.N_nil _ _ _ _ _ | exact Kd.V_nil _ _ _ _ _ | exact Kd.Q_nil _ _ _ _ _ | exact Kd.R_nil _ _ _ _ _⟩, ⟨by (with_reducible repeat (first | refine Zg ?_ _ | refine Zd ?_ | refine Zf ?_ _)); refine ZK ?_ NB263_265.out _; (with_reducible repeat (first | refine Zg ?_ _ | refine Zd ?_ | refine Zf ?_ _)); refine ZK ?_ NB263_265.out _; (with_reducible repeat (first | refine Zg ?_ _ | refine Zd ?_ | refine Zf ?_ _)); exact BK263.out⟩, ⟨by (with_reducible repeat (first | refine Zg ?_ _ | refine Zd ?_ | refine Zf ?_ _)); refine ZK ?_ NB264_265.out _; (with_reducible repeat (first | refine Zg ?_ _ | refine Zd ?_ | refine Zf ?_ _)); refine ZK ?_ NB264_265.out _; (with_reducible repeat (first | refine Zg ?_ _ | refine Zd ?_ | refine Zf ?_ _)); exact BK264.out⟩, ⟨by (with_reducible repeat (first | refine Zg ?_ _ | refine Zd ?_ | refine Zf ?_ _)); refine ZT (cs := #[.int .i64 a0_0, .slice none 0 0]) ?_ 1 _ rfl; (with_reducible repeat (first | refine Zg ?_ _ | refine Zd ?_ | refine Zf ?_ _)); refine ZT (cs := #[.int .i64 0, .slice none 0 0]) ?_ 0 _ rfl; (with_reducible repeat (first | refine Zg ?_ _ | refine Zd ?_ | refine Zf ?_ _)); exact BK265.out⟩, ⟨hB_⟩⟩
 case round =>
  clear H'
  try clear c1
  try clear p2
  try clear c6
  try clear c9
  try clear c10
  try clear hcz11_0
  try clear hcz11_1
  try clear hcz7_0
  try clear hcz7_1
  try clear hfz11_0
  try clear hfz11_1
  try clear hfz7_0
  try clear hfz7_1
  obtain ⟨x9_1, x10_1, x266001_1, u266001, rfl, rfl, HA, HK1, HO_266001, BK263, BK264, BK265, HB⟩ := hrel
  cases gk with
  | zero => exact absurd HA.out (by simp [spec_AddAttack.l0])
  | succ k1 =>
   have H := HA.out
   clear HA
   simp only [spec_AddAttack.l0] at H
   have HC12 := Aside0.mk H
   clear H
   go_upto_region 4 with (fail)
   go_cut [23] (fun v23 wc => ∃ (kq : Nat) (x23_11 : Bool), v23 = .bool x23_11 ∧ Aside0 (spec_AddAttack.j1 kq a1 a2 x9_1 x10_1 x23_11 a0_0 l0_1 a0_0 x266001_1 = some (r1, r2, r3)) ∧ Aside0 (kq ≤ k1) ∧ Aside0 (Kd.S (Kd.slice 3 (Kd.int .i64)) 31 wc w.heap.size (fun _ => True) u266001 x266001_1) ∧ Aside0 (wc.heap[gb263]? = some (.cells #[.int .i64 a0_0, (.slice A0_1 l0_1.length c0_1)] 27 (0, 0))) ∧ Aside0 (wc.heap[gb264]? = some (.cells #[.int .i64 0, (.slice none 0 0)] 27 (0, 0))) ∧ Aside0 (wc.heap[gb265]? = some (.cells #[.int .i64 a0_0, u266001] 27 (0, 0))) ∧ Aside0 (Below w.heap.size w wc))
   case first =>
    have H := HC12.out
    clear HC12
    by_cases c13 : x10_1 < (l0_1.length : Int)
    ·rw [if_pos c13] at H
     have c13b0 : decide (x10_1 < (l0_1.length : Int)) = true := decide_eq_true c13
     clear c13
     (first | rw [c13b0] | (simp only [i64_w, i32_w]; rw [c13b0]) | skip)
     replace H := Option.bind_eq_some_iff.mp H
     obtain ⟨t266, A140, H⟩ := H
     replace H : (spec_AddAttack.j1 k1 a1 a2 x9_1 x10_1 t266 a0_0 l0_1 a0_0 x266001_1) = some (r1, r2, r3) := H
     have A14 := Aside0.mk A140
     clear A140
     have H' := Aside0.mk H
     clear H
     have hnb15 := NB263_264.out
     have hnc15 := NB264_263.out
     have hnb16 := NB263_265.out
     have hnc16 := NB265_263.out
     have hcz17_0 : wr.cell? ⟨gb263, 0, none⟩ = some (.int .i64 a0_0) := (Za BK263.out 0).trans rfl
     have hcz17_1 : wr.cell? ⟨gb263, 1, none⟩ = some (.slice A0_1 l0_1.length c0_1) := (Za BK263.out 1).trans rfl
     have hfz17_0 := Zb BK263.out 0
     have hfz17_1 := Zb BK263.out 1
     go_wp2_with (first | (go_at_call 57; (with_reducible refine (spec_IsGraph.calls k1 a0_0 _ _ l0_1 t266 _ ?side1 ?side2 A14.out).mono ?_); (case side1 => exact cb_ HR0_1.out); (case side2 => exact HC0_1.out); rintro e w18 ⟨rfl, hb⟩; replace HO_266001 := Aside0.mk (Zk (rS_ HO_266001.out) hb); replace BK263 := Aside0.mk (Zc (g := gb263) (o := .cells #[.int .i64 a0_0, .slice A0_1 l0_1.length c0_1] 27 (0, 0)) (bk_ BK263.out) hb); replace BK264 := Aside0.mk (Zc (g := gb264) (o := .cells #[.int .i64 0, .slice none 0 0] 27 (0, 0)) (bk_ BK264.out) hb); replace BK265 := Aside0.mk (Zc (g := gb265) (o := .cells #[.int .i64 a0_0, u266001] 27 (0, 0)) (bk_ BK265.out) hb); replace HB := Aside0.mk (Ze hB_ hb); (try clear hb); (try clear hb2); (try clear hk); (try clear hi)))
     go_meet
     case rel => exact ⟨_, (t266), sm_, H', ⟨by have := HK1.out; first | omega | exact Nat.le_refl _⟩, ⟨rS_ HO_266001.out⟩, ⟨bk_ BK263.out⟩, ⟨bk_ BK264.out⟩, ⟨bk_ BK265.out⟩, ⟨hB_⟩⟩
    ·rw [if_neg c13] at H
     have c13b0 : decide (x10_1 < (l0_1.length : Int)) = false := decide_eq_false c13
     clear c13
     (first | rw [c13b0] | (simp only [i64_w, i32_w]; rw [c13b0]) | skip)
     have H' := Aside0.mk H
     clear H
     have hnb19 := NB263_264.out
     have hnc19 := NB264_263.out
     have hnb20 := NB263_265.out
     have hnc20 := NB265_263.out
     have hcz21_0 : wr.cell? ⟨gb263, 0, none⟩ = some (.int .i64 a0_0) := (Za BK263.out 0).trans rfl
     have hcz21_1 : wr.cell? ⟨gb263, 1, none⟩ = some (.slice A0_1 l0_1.length c0_1) := (Za BK263.out 1).trans rfl
     have hfz21_0 := Zb BK263.out 0
     have hfz21_1 := Zb BK263.out 1
     go_wp2
     go_meet
     case rel => exact ⟨_, (false), sm_, H', ⟨by have := HK1.out; first | omega | exact Nat.le_refl _⟩, ⟨rS_ HO_266001.out⟩, ⟨bk_ BK263.out⟩, ⟨bk_ BK264.out⟩, ⟨bk_ BK265.out⟩, ⟨hB_⟩⟩
   case rest =>
    clear HC12
    try clear c1
    try clear c2
    try clear p2
    try clear c6
    try clear c9
    try clear c10
    try clear c13
    try clear c13b0
    try clear c15
    try clear c16
    try clear c19
    try clear c20
    try clear hcz11_0
    try clear hcz11_1
    try clear hcz17_0
    try clear hcz17_1
    try clear hcz21_0
    try clear hcz21_1
    try clear hcz7_0
    try clear hcz7_1
    try clear hfz11_0
    try clear hfz11_1
    try clear hfz17_0
    try clear hfz17_1
    try clear hfz21_0
    try clear hfz21_1
    try clear hfz7_0
    try clear hfz7_1
    try clear p2
    obtain ⟨kq, x23_11, rfl, HA, HJ11, HO_266001, BK263, BK264, BK265, HB⟩ := hcut
    cases kq with
    | zero => exact absurd HA.out (by simp [spec_AddAttack.j1])
    | succ kj11 =>
     have H := HA.out
     clear HA
     simp only [spec_AddAttack.j1] at H
     by_cases c22 : x23_11 = true
     ·subst c22
      have H1 : (if 0 ≤ x10_1 then (if x10_1 < (l0_1.length : Int) then (if x9_1 = true then ((some (([] : List Int) : List Int)).bind fun y268 => (if y268.length + (rd_L1 l0_1 x10_1).length < 17592186044416 then (if x266001_1.length < 5864062014805 then (spec_AddAttack.l0 kj11 a1 a2 x9_1 (wrap64 (x10_1 + 1)) a0_0 l0_1 a0_0 (x266001_1 ++ [(y268 ++ (rd_L1 l0_1 x10_1))])) else (none)) else (none))) else (if 0 < ((rd_L1 l0_1 x10_1).length : Int) then (if (rd (rd_L1 l0_1 x10_1) 0) > a1 then (if x266001_1.length < 5864062014805 then ((some (x266001_1 ++ [(([a1, a2] : List Int))] : List (List Int))).bind fun y281 => ((some (([] : List Int) : List Int)).bind fun y284 => (if y284.length + (rd_L1 l0_1 x10_1).length < 17592186044416 then (if y281.length < 5864062014805 then (spec_AddAttack.l0 kj11 a1 a2 true (wrap64 (x10_1 + 1)) a0_0 l0_1 a0_0 (y281 ++ [(y284 ++ (rd_L1 l0_1 x10_1))])) else (none)) else (none)))) else (none)) else (if (rd (rd_L1 l0_1 x10_1) 0) = a1 then (if 1 < ((rd_L1 l0_1 x10_1).length : Int) then (if (rd (rd_L1 l0_1 x10_1) 1) > a2 then (if x266001_1.length < 5864062014805 then ((some (x266001_1 ++ [(([a1, a2] : List Int))] : List (List Int))).bind fun y298 => ((some (([] : List Int) : List Int)).bind fun y301 => (if y301.length + (rd_L1 l0_1 x10_1).length < 17592186044416 then (if y298.length < 5864062014805 then (spec_AddAttack.l0 kj11 a1 a2 true (wrap64 (x10_1 + 1)) a0_0 l0_1 a0_0 (y298 ++ [(y301 ++ (rd_L1 l0_1 x10_1))])) else (none)) else (none)))) else (none)) else ((some (([] : List Int) : List Int)).bind fun y310 => (if y310.length + (rd_L1 l0_1 x10_1).length < 17592186044416 then (if x266001_1.length < 5864062014805 then (spec_AddAttack.l0 kj11 a1 a2 x9_1 (wrap64 (x10_1 + 1)) a0_0 l0_1 a0_0 (x266001_1 ++ [(y310 ++ (rd_L1 l0_1 x10_1))])) else (none)) else (none)))) else (none)) else ((some (([] : List Int) : List Int)).bind fun y319 => (if y319.length + (rd_L1 l0_1 x10_1).length < 17592186044416 then (if x266001_1.length < 5864062014805 then (spec_AddAttack.l0 kj11 a1 a2 x9_1 (wrap64 (x10_1 + 1)) a0_0 l0_1 a0_0 (x266001_1 ++ [(y319 ++ (rd_L1 l0_1 x10_1))])) else (none)) else (none))))) else (none))) else (none)) else (none)) = some (r1, r2, r3) := by rw [if_pos rfl] at H; exact H
      clear H
      have H := H1
      clear H1
      by_cases c23 : 0 ≤ x10_1
      ·rw [if_pos c23] at H
       have c23b0 : decide (0 ≤ x10_1) = true := decide_eq_true c23
       clear c23
       by_cases c24 : x10_1 < (l0_1.length : Int)
       ·rw [if_pos c24] at H
        have c24b0 : decide (x10_1 < (l0_1.length : Int)) = true := decide_eq_true c24
        clear c24
        by_cases c25 : x9_1 = true
        ·subst c25
         have H1 : ((some (([] : List Int) : List Int)).bind fun y268 => (if y268.length + (rd_L1 l0_1 x10_1).length < 17592186044416 then (if x266001_1.length < 5864062014805 then (spec_AddAttack.l0 kj11 a1 a2 true (wrap64 (x10_1 + 1)) a0_0 l0_1 a0_0 (x266001_1 ++ [(y268 ++ (rd_L1 l0_1 x10_1))])) else (none)) else (none))) = some (r1, r2, r3) := by rw [if_pos rfl] at H; exact H
         clear H
         have H := H1
         clear H1
         obtain ⟨y268, hy268⟩ : ∃ y_ : List Int, y_ = (([] : List Int)) := ⟨_, rfl⟩
         replace H : (if y268.length + (rd_L1 l0_1 x10_1).length < 17592186044416 then (if x266001_1.length < 5864062014805 then (spec_AddAttack.l0 kj11 a1 a2 true (wrap64 (x10_1 + 1)) a0_0 l0_1 a0_0 (x266001_1 ++ [(y268 ++ (rd_L1 l0_1 x10_1))])) else (none)) else (none)) = some (r1, r2, r3) := hy_ hy268 H
         have Ny268 := Aside0.mk hy268
         clear hy268
         by_cases c26 : y268.length + (rd_L1 l0_1 x10_1).length < 17592186044416
         ·rw [if_pos c26] at H
          have LMc26 := Aside0.mk c26
          clear c26
          obtain ⟨y271, hy271⟩ : ∃ y_ : List Int, y_ = (y268 ++ (rd_L1 l0_1 x10_1)) := ⟨_, rfl⟩
          replace H : (if x266001_1.length < 5864062014805 then (spec_AddAttack.l0 kj11 a1 a2 true (wrap64 (x10_1 + 1)) a0_0 l0_1 a0_0 (x266001_1 ++ [y271])) else (none)) = some (r1, r2, r3) := hy_ hy271 H
          have Ny271 := Aside0.mk hy271
          clear hy271
          by_cases c27 : x266001_1.length < 5864062014805
          ·rw [if_pos c27] at H
           have LMc27 := Aside0.mk c27
           clear c27
           obtain ⟨y274, hy274⟩ : ∃ y_ : List (List Int), y_ = (x266001_1 ++ [y271]) := ⟨_, rfl⟩
           replace H : (spec_AddAttack.l0 kj11 a1 a2 true (wrap64 (x10_1 + 1)) a0_0 l0_1 a0_0 y274) = some (r1, r2, r3) := hy_ hy274 H
           have Ny274 := Aside0.mk hy274
           clear hy274
           have H' := Aside0.mk H
           clear H
           have hnb28 := NB263_264.out
           have hnc28 := NB264_263.out
           have hnb29 := NB263_265.out
           have hnc29 := NB265_263.out
           have hcz30_0 : wc.cell? ⟨gb263, 0, none⟩ = some (.int .i64 a0_0) := (Za BK263.out 0).trans rfl
           have hcz30_1 : wc.cell? ⟨gb263, 1, none⟩ = some (.slice A0_1 l0_1.length c0_1) := (Za BK263.out 1).trans rfl
           have hfz30_0 := Zb BK263.out 0
           have hfz30_1 := Zb BK263.out 1
           have p267 : 0 ≤ (x10_1 : Int) := of_decide_eq_true as_
           have q267 : x10_1 < (l0_1.length : Int) := of_decide_eq_true as_
           obtain ⟨ad267, A267_0, c267_0, e267, hx267_0, hl267_0, hi267_0⟩ := at_L1 HR0_1.out x10_1 p267 q267
           cases e267
           replace hx267_0 := (HB.out.cell (World.block_lt_of_cell? w _ hx267_0)).trans hx267_0
           have HR267_0 := Aside0.mk hi267_0
           have HC267_0 := Aside0.mk hl267_0
           clear hi267_0 hl267_0
           replace p267 := eq_true p267
           replace q267 := eq_true q267
           try go_wp2
           replace HO_266001 := Aside0.mk (Zr HO_266001.out)
           replace BK263 := Aside0.mk (Zd BK263.out)
           replace BK264 := Aside0.mk (Zd BK264.out)
           replace BK265 := Aside0.mk (Zd BK265.out)
           replace HB := Aside0.mk (Zi HB.out)
           refine start_ (n := 9) (S := fun w' => w'.cell? ⟨gb265, 0, none⟩ = some (.int .i64 a0_0) ∧ w'.cell? ⟨gb265, 1, none⟩ = some (u266001)) (ds := [8]) #[O,O,O,O,O,O,O,O,O] (by kernel_rfl) rfl rfl ⟨(Za BK265.out 0).trans rfl, (Za BK265.out 1).trans rfl⟩ (fun hHeld => ?_); refine with_tabW spec_AddAttack.tab10 spec_AddAttack.bits10 (fun HT_ HW_ => ?_)
           generalize wc.drew = w31 at HO_266001 BK263 BK264 BK265 HB hHeld ⊢
           refine pu_ 0 62 #[Y,O,O,O,O,O,O,O,O] ?_
           refine pu_ 3 65 #[Y,O,O,Y,O,O,O,O,O] ?_
           refine tk2_ 1 63 #[Y,Y,O,Y,O,O,O,O,O] hHeld ?_
           refine on_ 2 64 #[Y,Y,Y,Y,O,O,O,O,O] (fun K hK => ?_)
           refine Kd.R_lit_step (Kd.int .i64) _ 3 ?hg (N := 64) ?hd (xs := ([] : List Int)) (inner := []) (ok := fun _ => True) (okp := fun _ => True) ?hr ?hp (fun _ hk => hk) trivial (Below.refl _ _) (Nat.le_refl _) (by simp) ?_; (case hd => rfl); (case hg => rfl); (case hr => first | (go_simp; done) | (go_simp; rfl)); (case hp => exact (Reps.none _ _))
           intro v269 w32 ho33 hb hg_ hnew_
           clear hg_ hnew_
           (first | rw [← Ny268.out] at ho33 | (simp only [Int.reduceToNat] at ho33; rw [← Ny268.out] at ho33))
           replace HO_266001 := Aside0.mk (Kd.S_elder' (rS_ HO_266001.out) (ZS ho33) hb)
           have HO270 := Aside0.mk (ZI ho33 (Zl hB_))
           replace BK263 := Aside0.mk (Zc (g := gb263) (o := .cells #[.int .i64 a0_0, .slice (some ad267) l0_1.length c0_1] 27 (0, 0)) (bk_ BK263.out) hb)
           replace BK264 := Aside0.mk (Zc (g := gb264) (o := .cells #[.int .i64 0, .slice none 0 0] 27 (0, 0)) (bk_ BK264.out) hb)
           replace BK265 := Aside0.mk (Zc (g := gb265) (o := .cells #[.int .i64 a0_0, u266001] 27 (0, 0)) (bk_ BK265.out) hb)
           replace HB := Aside0.mk (Ze hB_ hb)
           clear hb ho33
           refine hK.out _ _ ⟨(Za BK265.out 0).trans rfl, (Za BK265.out 1).trans rfl⟩ (fun hHeld => ?_)
           clear hK K
           refine no_ 64 ?_
           refine on_ 4 66 #[Y,Y,Y,Y,Y,O,O,O,O] (fun K hK => ?_)
           refine Kd.R_append_rows_step (Kd.int .i64) (w0 := w) w.heap.size (by rfl) (.tmp 64) (.tmp 65) 31 3 (.int .i64 0) 8 rfl Try.underlying31 info3 rfl (by decide) (by omega) v269 y268 (rd_L1 l0_1 x10_1) _ _ _ (fun _ => True) (fun _ => False) rfl rfl ?aO ?aR (fun _ _ h => h) (fun _ h => h.elim) ?aF ?aB ?aS ?aL ?_
           (case aR => exact cb_ HR267_0.out)
           (case aB => exact hB_)
           (case aF => exact (fun _ _ => trivial))
           (case aO => exact (rR_ HO270.out))
           (case aS => exact (Zl hB_))
           (case aL => have := LMc26.out; omega)
           intro v272 w34 ho hb hg hat
           rw [← Ny271.out] at ho
           have n0_ := Aside0.mk (Kd.S_after (ok := (fun _ => True)) (rS_ HO_266001.out) hg hat)
           have n1_ := Aside0.mk (ZO (g := gb263) (o := .cells #[.int .i64 a0_0, .slice (some ad267) l0_1.length c0_1] 27 (0, 0)) (bk_ BK263.out) hg (Kd.R_ne HO270.out BK263.out (by decide)))
           have n2_ := Aside0.mk (ZO (g := gb264) (o := .cells #[.int .i64 0, .slice none 0 0] 27 (0, 0)) (bk_ BK264.out) hg (Kd.R_ne HO270.out BK264.out (by decide)))
           have n3_ := Aside0.mk (ZO (g := gb265) (o := .cells #[.int .i64 a0_0, u266001] 27 (0, 0)) (bk_ BK265.out) hg (Kd.R_ne HO270.out BK265.out (by decide)))
           have n4_ := Aside0.mk (hb)
           have n5_ := Aside0.mk (ho)
           clear HO_266001
           clear BK263
           clear BK264
           clear BK265
           clear HB
           clear HO270
           have HO_266001 := n0_
           have BK263 := n1_
           have BK264 := n2_
           have BK265 := n3_
           have HB := n4_
           have HO273 := n5_
           clear n0_ n1_ n2_ n3_ n4_ n5_
           clear ho hb hg hat
           obtain ⟨Ao36, co36, eo36⟩ := ZP HO273.out
           (first | subst eo36 | (injection eo36 with f1_ f2_ f3_; have f4_ := f1_.symm; have f5_ := f3_.symm; clear f1_ f2_ f3_; subst f4_; subst f5_))
           refine hK.out _ _ ⟨(Za BK265.out 0).trans rfl, (Za BK265.out 1).trans rfl⟩ (fun hHeld => ?_)
           clear hK K
           refine no_ 66 ?_
           refine on_ 5 67 #[Y,Y,Y,Y,Y,Y,O,O,O] (fun K hK => ?_)
           refine value_ (w1 := ?_) (v := ?_) (by rfl) rfl ?_ ?_
           rotate_left 2
           ·go_simp
            constructor
            ·rfl
            ·rfl
           refine hK.out _ _ ⟨(Za (Zf BK265.out _) 0).trans rfl, (Za (Zf BK265.out _) 1).trans rfl⟩ (fun hHeld => ?_)
           clear hK K
           refine no_ 67 ?_
           refine on_ 6 68 #[Y,Y,Y,Y,Y,Y,Y,O,O] (fun K hK => ?_)
           refine Kd.S_append_step (Kd.slice 3 (Kd.int .i64)) (w0 := w) w.heap.size (by rfl) (.tmp 63) (.tmp 67) 22 31 (.slice none 0 0) 24 rfl Try.underlying22 info31 rfl (by decide) (by omega) u266001 x266001_1 y271 [.slice Ao36 y271.length co36] (fun _ => True) (fun k_ => some k_ = (.slice Ao36 y271.length co36 : Value).ownBlock) rfl rfl ?aP (fun k_ hk_ => ((Zz (ok' := fun k_ => ((fun _ => True)) k_ ∧ some k_ ≠ (u266001 : Value).ownBlock) (Kd.R_apart' (HO273.out) (Kd.S_typed HO_266001.out) (by decide)) (fun k_ hk => ⟨trivial, hk.2⟩))).1 k_ hk_.symm) ?aF ?aO ?aB ?aS ?aL ?_
           (case aP => exact Kd.M_row (Zz (Kd.R_tight rfl (Zz (ok' := fun k_ => ((fun _ => True)) k_ ∧ some k_ ≠ (u266001 : Value).ownBlock) (Kd.R_apart' (HO273.out) (Kd.S_typed HO_266001.out) (by decide)) (fun k_ hk => ⟨trivial, hk.2⟩))) (fun _ h_ => h_)))
           (case aB => exact hB_)
           (case aF => exact (fun _ _ => trivial))
           (case aO => exact (by (with_reducible repeat (first | apply Zy | apply Zx | apply Zr)); exact Zs HO_266001.out (fun k_ hk => ⟨trivial, fun e_ => hk.2 e_⟩)))
           (case aS => exact (Zl hB_))
           (case aL => have := LMc27.out; omega)
           intro v275 w35 ho hb hg hat
           rw [← Ny274.out] at ho
           have n0_ := Aside0.mk (ZO (g := gb263) (o := .cells #[.int .i64 a0_0, .slice (some ad267) l0_1.length c0_1] 27 (0, 0)) (bk_ BK263.out) hg (Kd.S_ne HO_266001.out BK263.out (by decide)))
           have n1_ := Aside0.mk (ZO (g := gb264) (o := .cells #[.int .i64 0, .slice none 0 0] 27 (0, 0)) (bk_ BK264.out) hg (Kd.S_ne HO_266001.out BK264.out (by decide)))
           have n2_ := Aside0.mk (ZO (g := gb265) (o := .cells #[.int .i64 a0_0, u266001] 27 (0, 0)) (bk_ BK265.out) hg (Kd.S_ne HO_266001.out BK265.out (by decide)))
           have n3_ := Aside0.mk (hb)
           have n4_ := Aside0.mk (ho)
           clear BK263
           clear BK264
           clear BK265
           clear HB
           clear HO_266001
           clear HO273
           have BK263 := n0_
           have BK264 := n1_
           have BK265 := n2_
           have HB := n3_
           have HO276 := n4_
           clear n0_ n1_ n2_ n3_ n4_
           clear ho hb hg hat
           obtain ⟨Ao37, co37, eo37⟩ := Kd.S_slice HO276.out
           (first | subst eo37 | (injection eo37 with f1_ f2_ f3_; have f4_ := f1_.symm; have f5_ := f3_.symm; clear f1_ f2_ f3_; subst f4_; subst f5_))
           refine hK.out _ _ ⟨(Za BK265.out 0).trans rfl, (Za BK265.out 1).trans rfl⟩ (fun hHeld => ?_)
           clear hK K
           refine no_ 68 ?_
           refine pu_ 7 69 #[Y,Y,Y,Y,Y,Y,Y,Y,O] ?_
           refine last_ (i := 8) (N := none) #[Y,Y,Y,Y,Y,Y,Y,Y,Y] rfl rfl (one_of HT_.out (by kernel_rfl)) (by decide) (fun K hK => ?_)
           have hs38 : w35.cell? ⟨gb265, 1, none⟩ = some (u266001) := (Za BK265.out 1).trans rfl
           have hfs38 := Zb BK265.out 1
           have hns38_0 := NB263_265.out
           have hns38_1 := NB264_265.out
           have hms38_0 := NB265_263.out
           have hms38_1 := NB265_264.out
           refine skip_ (w1 := ?_) (by rfl) rfl ?_ ?_
           rotate_left
           ·go_simp
            rfl
           refine hK.out _ _ ?_
           clear hK K
           refine done_ (done_of HT_.out (by kernel_rfl)) ?_
           try go_wp2
           go_roundg kj11
           case measure => have := HK1.out; have := HJ11.out; omega
           case rel => exact ⟨(true), (wrap64 (x10_1 + 1)), (y274), (.slice Ao37 y274.length co37), sm_, sm_, H', ⟨by have := HK1.out; have := HJ11.out; omega⟩, ⟨by (with_reducible repeat (first | apply Zy | apply Zx | apply Zr)); exact Zs (Zw (p := ⟨gb265, 1, none⟩) (ZC HO276.out BK265.out (by decide)) (fun _ hk => hk.2) (.slice Ao37 y274.length co37)) (fun _ hk => trivial)⟩, ⟨by (with_reducible repeat (first | refine Zg ?_ _ | refine Zd ?_ | refine Zf ?_ _)); refine ZK ?_ NB263_265.out _; (with_reducible repeat (first | refine Zg ?_ _ | refine Zd ?_ | refine Zf ?_ _)); exact BK263.out⟩, ⟨by (with_reducible repeat (first | refine Zg ?_ _ | refine Zd ?_ | refine Zf ?_ _)); refine ZK ?_ NB264_265.out _; (with_reducible repeat (first | refine Zg ?_ _ | refine Zd ?_ | refine Zf ?_ _)); exact BK264.out⟩, ⟨by (with_reducible repeat (first | refine Zg ?_ _ | refine Zd ?_ | refine Zf ?_ _)); refine ZT (cs := #[.int .i64 a0_0, u266001]) ?_ 1 _ rfl; (with_reducible repeat (first | refine Zg ?_ _ | refine Zd ?_ | refine Zf ?_ _)); exact BK265.out⟩, ⟨hB_⟩⟩
          ·rw [if_neg c27] at H
           exact absurd H (by simp)
         ·rw [if_neg c26] at H
          exact absurd H (by simp)
        ·replace c25 := Bool.eq_false_iff.mpr c25
         subst c25
         have H1 : (if 0 < ((rd_L1 l0_1 x10_1).length : Int) then (if (rd (rd_L1 l0_1 x10_1) 0) > a1 then (if x266001_1.length < 5864062014805 then ((some (x266001_1 ++ [(([a1, a2] : List Int))] : List (List Int))).bind fun y281 => ((some (([] : List Int) : List Int)).bind fun y284 => (if y284.length + (rd_L1 l0_1 x10_1).length < 17592186044416 then (if y281.length < 5864062014805 then (spec_AddAttack.l0 kj11 a1 a2 true (wrap64 (x10_1 + 1)) a0_0 l0_1 a0_0 (y281 ++ [(y284 ++ (rd_L1 l0_1 x10_1))])) else (none)) else (none)))) else (none)) else (if (rd (rd_L1 l0_1 x10_1) 0) = a1 then (if 1 < ((rd_L1 l0_1 x10_1).length : Int) then (if (rd (rd_L1 l0_1 x10_1) 1) > a2 then (if x266001_1.length < 5864062014805 then ((some (x266001_1 ++ [(([a1, a2] : List Int))] : List (List Int))).bind fun y298 => ((some (([] : List Int) : List Int)).bind fun y301 => (if y301.length + (rd_L1 l0_1 x10_1).length < 17592186044416 then (if y298.length < 5864062014805 then (spec_AddAttack.l0 kj11 a1 a2 true (wrap64 (x10_1 + 1)) a0_0 l0_1 a0_0 (y298 ++ [(y301 ++ (rd_L1 l0_1 x10_1))])) else (none)) else (none)))) else (none)) else ((some (([] : List Int) : List Int)).bind fun y310 => (if y310.length + (rd_L1 l0_1 x10_1).length < 17592186044416 then (if x266001_1.length < 5864062014805 then (spec_AddAttack.l0 kj11 a1 a2 false (wrap64 (x10_1 + 1)) a0_0 l0_1 a0_0 (x266001_1 ++ [(y310 ++ (rd_L1 l0_1 x10_1))])) else (none)) else (none)))) else (none)) else ((some (([] : List Int) : List Int)).bind fun y319 => (if y319.length + (rd_L1 l0_1 x10_1).length < 17592186044416 then (if x266001_1.length < 5864062014805 then (spec_AddAttack.l0 kj11 a1 a2 false (wrap64 (x10_1 + 1)) a0_0 l0_1 a0_0 (x266001_1 ++ [(y319 ++ (rd_L1 l0_1 x10_1))])) else (none)) else (none))))) else (none)) = some (r1, r2, r3) := by rw [if_neg (show ¬ (false = true) by decide)] at H; exact H
         clear H
         have H := H1
         clear H1
         by_cases c39 : 0 < ((rd_L1 l0_1 x10_1).length : Int)
         ·rw [if_pos c39] at H
          have c39b0 : decide (0 < ((rd_L1 l0_1 x10_1).length : Int)) = true := decide_eq_true c39
          have c39b1 : decide (0 < (rd_L1 l0_1 x10_1).length) = true := decide_eq_true (by omega)
          clear c39
          by_cases c40 : (rd (rd_L1 l0_1 x10_1) 0) > a1
          ·rw [if_pos c40] at H
           have c40b0 : decide (a1 < (rd (rd_L1 l0_1 x10_1) 0)) = true := decide_eq_true c40
           clear c40
           obtain ⟨y278, hy278⟩ : ∃ y_ : List Int, y_ = (([a1, a2] : List Int)) := ⟨_, rfl⟩
           replace H : (if x266001_1.length < 5864062014805 then ((some (x266001_1 ++ [y278] : List (List Int))).bind fun y281 => ((some (([] : List Int) : List Int)).bind fun y284 => (if y284.length + (rd_L1 l0_1 x10_1).length < 17592186044416 then (if y281.length < 5864062014805 then (spec_AddAttack.l0 kj11 a1 a2 true (wrap64 (x10_1 + 1)) a0_0 l0_1 a0_0 (y281 ++ [(y284 ++ (rd_L1 l0_1 x10_1))])) else (none)) else (none)))) else (none)) = some (r1, r2, r3) := hy_ hy278 H
           have Ny278 := Aside0.mk hy278
           clear hy278
           by_cases c41 : x266001_1.length < 5864062014805
           ·rw [if_pos c41] at H
            have LMc41 := Aside0.mk c41
            clear c41
            obtain ⟨y281, hy281⟩ : ∃ y_ : List (List Int), y_ = (x266001_1 ++ [y278]) := ⟨_, rfl⟩
            replace H : ((some (([] : List Int) : List Int)).bind fun y284 => (if y284.length + (rd_L1 l0_1 x10_1).length < 17592186044416 then (if y281.length < 5864062014805 then (spec_AddAttack.l0 kj11 a1 a2 true (wrap64 (x10_1 + 1)) a0_0 l0_1 a0_0 (y281 ++ [(y284 ++ (rd_L1 l0_1 x10_1))])) else (none)) else (none))) = some (r1, r2, r3) := hy_ hy281 H
            have Ny281 := Aside0.mk hy281
            clear hy281
            obtain ⟨y284, hy284⟩ : ∃ y_ : List Int, y_ = (([] : List Int)) := ⟨_, rfl⟩
            replace H : (if y284.length + (rd_L1 l0_1 x10_1).length < 17592186044416 then (if y281.length < 5864062014805 then (spec_AddAttack.l0 kj11 a1 a2 true (wrap64 (x10_1 + 1)) a0_0 l0_1 a0_0 (y281 ++ [(y284 ++ (rd_L1 l0_1 x10_1))])) else (none)) else (none)) = some (r1, r2, r3) := hy_ hy284 H
            have Ny284 := Aside0.mk hy284
            clear hy284
            by_cases c42 : y284.length + (rd_L1 l0_1 x10_1).length < 17592186044416
            ·rw [if_pos c42] at H
             have LMc42 := Aside0.mk c42
             clear c42
             obtain ⟨y287, hy287⟩ : ∃ y_ : List Int, y_ = (y284 ++ (rd_L1 l0_1 x10_1)) := ⟨_, rfl⟩
             replace H : (if y281.length < 5864062014805 then (spec_AddAttack.l0 kj11 a1 a2 true (wrap64 (x10_1 + 1)) a0_0 l0_1 a0_0 (y281 ++ [y287])) else (none)) = some (r1, r2, r3) := hy_ hy287 H
             have Ny287 := Aside0.mk hy287
             clear hy287
             by_cases c43 : y281.length < 5864062014805
             ·rw [if_pos c43] at H
              have LMc43 := Aside0.mk c43
              clear c43
              obtain ⟨y290, hy290⟩ : ∃ y_ : List (List Int), y_ = (y281 ++ [y287]) := ⟨_, rfl⟩
              replace H : (spec_AddAttack.l0 kj11 a1 a2 true (wrap64 (x10_1 + 1)) a0_0 l0_1 a0_0 y290) = some (r1, r2, r3) := hy_ hy290 H
              have Ny290 := Aside0.mk hy290
              clear hy290
              have H' := Aside0.mk H
              clear H
              have hnb44 := NB263_264.out
              have hnc44 := NB264_263.out
              have hnb45 := NB263_265.out
              have hnc45 := NB265_263.out
              have hcz46_0 : wc.cell? ⟨gb263, 0, none⟩ = some (.int .i64 a0_0) := (Za BK263.out 0).trans rfl
              have hcz46_1 : wc.cell? ⟨gb263, 1, none⟩ = some (.slice A0_1 l0_1.length c0_1) := (Za BK263.out 1).trans rfl
              have hfz46_0 := Zb BK263.out 0
              have hfz46_1 := Zb BK263.out 1
              have p267 : 0 ≤ (x10_1 : Int) := of_decide_eq_true as_
              have q267 : x10_1 < (l0_1.length : Int) := of_decide_eq_true as_
              obtain ⟨ad267, A267_0, c267_0, e267, hx267_0, hl267_0, hi267_0⟩ := at_L1 HR0_1.out x10_1 p267 q267
              cases e267
              replace hx267_0 := (HB.out.cell (World.block_lt_of_cell? w _ hx267_0)).trans hx267_0
              have HR267_0 := Aside0.mk hi267_0
              have HC267_0 := Aside0.mk hl267_0
              clear hi267_0 hl267_0
              replace p267 := eq_true p267
              replace q267 := eq_true q267
              have p277 : 0 ≤ (0 : Int) := (by omega)
              have q277 : 0 < ((rd_L1 l0_1 x10_1).length : Int) := of_decide_eq_true as_
              obtain ⟨ad277, e277, hx277_0⟩ := Zv HR267_0.out 0 p277 q277
              cases e277
              have qi277 : (0 < (rd_L1 l0_1 x10_1).length) = True := eq_true (by omega)
              (try rw [show ((0 : Int)).toNat = 0 from rfl] at hx277_0)
              (try rw [Addr.add_zero'] at hx277_0)
              replace hx277_0 := (HB.out.cell (World.block_lt_of_cell? w _ hx277_0)).trans hx277_0
              replace p277 := eq_true p277
              replace q277 := eq_true q277
              have hnb47 := NB265_264.out
              have hnc47 := NB264_265.out
              have hcz48_0 : wc.cell? ⟨gb265, 0, none⟩ = some (.int .i64 a0_0) := (Za BK265.out 0).trans rfl
              have hcz48_1 : wc.cell? ⟨gb265, 1, none⟩ = some (u266001) := (Za BK265.out 1).trans rfl
              have hfz48_0 := Zb BK265.out 0
              have hfz48_1 := Zb BK265.out 1
              try go_wp2_with (first | ((with_reducible refine ZD (N := 58) rfl ?_); refine Kd.R_lit (Kd.int .i64) _ 3 ?hg (N := 58) ?hd (xs := ([a1, a2] : List Int)) (inner := [.int .i64 a1, .int .i64 a2]) (ok := fun _ => True) (okp := fun _ => True) ?hr ?hp (fun _ hk => hk) trivial (Below.refl _ _) (Nat.le_refl _) (by simp) ?_; (case hd => rfl); (case hg => rfl); (case hr => first | (go_simp; done) | (go_simp; rfl)); (case hp => exact (Reps.one (show Kd.M (Kd.int .i64) _ _ _ a1 [.int .i64 a1] from rfl) (Reps.one (show Kd.M (Kd.int .i64) _ _ _ a2 [.int .i64 a2] from rfl) (Reps.none _ _)))); intro v279 w49 ho50 hb hg_ hnew_; clear hg_ hnew_; (first | rw [← Ny278.out] at ho50 | (simp only [Int.reduceToNat] at ho50; rw [← Ny278.out] at ho50)); replace HO_266001 := Aside0.mk (Kd.S_elder' (rS_ HO_266001.out) (ZS ho50) hb); have HO280 := Aside0.mk (ZI ho50 (Zl hB_)); replace BK263 := Aside0.mk (Zc (g := gb263) (o := .cells #[.int .i64 a0_0, .slice (some ad267) l0_1.length c0_1] 27 (0, 0)) (bk_ BK263.out) hb); replace BK264 := Aside0.mk (Zc (g := gb264) (o := .cells #[.int .i64 0, .slice none 0 0] 27 (0, 0)) (bk_ BK264.out) hb); replace BK265 := Aside0.mk (Zc (g := gb265) (o := .cells #[.int .i64 a0_0, u266001] 27 (0, 0)) (bk_ BK265.out) hb); replace HB := Aside0.mk (Ze hB_ hb); clear hb ho50; obtain ⟨Ao52, co52, eo52⟩ := ZP HO280.out; subst eo52) | ((with_reducible refine gate_builtin (b := .append) (xs := #[.tmp 55, .tmp 59]) rfl ?_); at_builtin; refine Kd.S_append (Kd.slice 3 (Kd.int .i64)) (w0 := w) w.heap.size rfl (.tmp 55) (.tmp 59) 22 31 (.slice none 0 0) 24 rfl Try.underlying22 info31 rfl (by decide) (by omega) u266001 x266001_1 y278 [.slice Ao52 y278.length co52] (fun _ => True) (fun k_ => some k_ = (.slice Ao52 y278.length co52 : Value).ownBlock) rfl rfl ?aP (fun k_ hk_ => ((Zz (ok' := fun k_ => ((fun _ => True)) k_ ∧ some k_ ≠ (u266001 : Value).ownBlock) (Kd.R_apart' (HO280.out) (Kd.S_typed HO_266001.out) (by decide)) (fun k_ hk => ⟨trivial, hk.2⟩))).1 k_ hk_.symm) ?aF ?aO ?aB ?aS ?aL ?_; (case aP => exact Kd.M_row (Zz (Kd.R_tight rfl (Zz (ok' := fun k_ => ((fun _ => True)) k_ ∧ some k_ ≠ (u266001 : Value).ownBlock) (Kd.R_apart' (HO280.out) (Kd.S_typed HO_266001.out) (by decide)) (fun k_ hk => ⟨trivial, hk.2⟩))) (fun _ h_ => h_))); (case aB => exact hB_); (case aF => exact (fun _ _ => trivial)); (case aO => exact (by (with_reducible repeat (first | apply Zy | apply Zx | apply Zr)); exact Zs HO_266001.out (fun k_ hk => ⟨trivial, fun e_ => hk.2 e_⟩))); (case aS => exact (Zl hB_)); (case aL => have := LMc41.out; omega); intro v282 w51 ho hb hg hat; rw [← Ny281.out] at ho; have n0_ := Aside0.mk (ZO (g := gb263) (o := .cells #[.int .i64 a0_0, .slice (some ad267) l0_1.length c0_1] 27 (0, 0)) (bk_ BK263.out) hg (Kd.S_ne HO_266001.out BK263.out (by decide))); have n1_ := Aside0.mk (ZO (g := gb264) (o := .cells #[.int .i64 0, .slice none 0 0] 27 (0, 0)) (bk_ BK264.out) hg (Kd.S_ne HO_266001.out BK264.out (by decide))); have n2_ := Aside0.mk (ZO (g := gb265) (o := .cells #[.int .i64 a0_0, u266001] 27 (0, 0)) (bk_ BK265.out) hg (Kd.S_ne HO_266001.out BK265.out (by decide))); have n3_ := Aside0.mk (hb); have n4_ := Aside0.mk (ho); clear BK263; clear BK264; clear BK265; clear HB; clear HO_266001; clear HO280; have BK263 := n0_; have BK264 := n1_; have BK265 := n2_; have HB := n3_; have HO283 := n4_; clear n0_ n1_ n2_ n3_ n4_; clear ho hb hg hat; obtain ⟨Ao53, co53, eo53⟩ := Kd.S_slice HO283.out; subst eo53; have hcz54_0 : w51.cell? ⟨gb265, 0, none⟩ = some (.int .i64 a0_0) := (Za BK265.out 0).trans rfl; have hcz54_1 : w51.cell? ⟨gb265, 1, none⟩ = some (u266001) := (Za BK265.out 1).trans rfl; have hfz54_0 := Zb BK265.out 0; have hfz54_1 := Zb BK265.out 1))
              have n0_ : Aside0 (Kd.S (Kd.slice 3 (Kd.int .i64)) 31 (w51.setCell ⟨gb265, 1, none⟩ (.slice Ao53 y281.length co53)) w.heap.size (fun _ => True) (.slice Ao53 y281.length co53) y281) := ⟨by (with_reducible repeat (first | apply Zy | apply Zx | apply Zr)); exact Zs (Zw (p := ⟨gb265, 1, none⟩) (ZC HO283.out BK265.out (by decide)) (fun _ hk => hk.2) (.slice Ao53 y281.length co53)) (fun _ hk => trivial)⟩
              have n1_ : Aside0 ((w51.setCell ⟨gb265, 1, none⟩ (.slice Ao53 y281.length co53)).heap[gb263]? = some (.cells #[.int .i64 a0_0, .slice (some ad267) l0_1.length c0_1] 27 (0, 0))) := ⟨by (with_reducible repeat (first | refine Zg ?_ _ | refine Zd ?_ | refine Zf ?_ _)); refine ZK ?_ NB263_265.out _; (with_reducible repeat (first | refine Zg ?_ _ | refine Zd ?_ | refine Zf ?_ _)); exact BK263.out⟩
              have n2_ : Aside0 ((w51.setCell ⟨gb265, 1, none⟩ (.slice Ao53 y281.length co53)).heap[gb264]? = some (.cells #[.int .i64 0, .slice none 0 0] 27 (0, 0))) := ⟨by (with_reducible repeat (first | refine Zg ?_ _ | refine Zd ?_ | refine Zf ?_ _)); refine ZK ?_ NB264_265.out _; (with_reducible repeat (first | refine Zg ?_ _ | refine Zd ?_ | refine Zf ?_ _)); exact BK264.out⟩
              have n3_ : Aside0 ((w51.setCell ⟨gb265, 1, none⟩ (.slice Ao53 y281.length co53)).heap[gb265]? = some (.cells #[.int .i64 a0_0, .slice Ao53 y281.length co53] 27 (0, 0))) := ⟨by (with_reducible repeat (first | refine Zg ?_ _ | refine Zd ?_ | refine Zf ?_ _)); refine ZT (cs := #[.int .i64 a0_0, u266001]) ?_ 1 _ rfl; (with_reducible repeat (first | refine Zg ?_ _ | refine Zd ?_ | refine Zf ?_ _)); exact BK265.out⟩
              have n4_ : Aside0 (Below w.heap.size w (w51.setCell ⟨gb265, 1, none⟩ (.slice Ao53 y281.length co53))) := ⟨hB_⟩
              (try clear HO283)
              (try clear BK263)
              (try clear BK264)
              (try clear BK265)
              (try clear HB)
              generalize (w51.setCell ⟨gb265, 1, none⟩ (.slice Ao53 y281.length co53)) = w55 at n0_ n1_ n2_ n3_ n4_ ⊢
              have HO283 := n0_
              have BK263 := n1_
              have BK264 := n2_
              have BK265 := n3_
              have HB := n4_
              clear n0_ n1_ n2_ n3_ n4_
              replace HO283 := Aside0.mk (Zr HO283.out)
              replace BK263 := Aside0.mk (Zd BK263.out)
              replace BK264 := Aside0.mk (Zd BK264.out)
              replace BK265 := Aside0.mk (Zd BK265.out)
              replace HB := Aside0.mk (Zi HB.out)
              refine start_ (n := 9) (S := fun w' => w'.cell? ⟨gb265, 0, none⟩ = some (.int .i64 a0_0) ∧ w'.cell? ⟨gb265, 1, none⟩ = some (.slice Ao53 y281.length co53)) (ds := [8]) #[O,O,O,O,O,O,O,O,O] (by kernel_rfl) rfl rfl ⟨(Za BK265.out 0).trans rfl, (Za BK265.out 1).trans rfl⟩ (fun hHeld => ?_); refine with_tabW spec_AddAttack.tab10 spec_AddAttack.bits10 (fun HT_ HW_ => ?_)
              generalize w55.drew = w56 at HO283 BK263 BK264 BK265 HB hHeld ⊢
              refine pu_ 0 62 #[Y,O,O,O,O,O,O,O,O] ?_
              refine pu_ 3 65 #[Y,O,O,Y,O,O,O,O,O] ?_
              refine tk2_ 1 63 #[Y,Y,O,Y,O,O,O,O,O] hHeld ?_
              refine on_ 2 64 #[Y,Y,Y,Y,O,O,O,O,O] (fun K hK => ?_)
              refine Kd.R_lit_step (Kd.int .i64) _ 3 ?hg (N := 64) ?hd (xs := ([] : List Int)) (inner := []) (ok := fun _ => True) (okp := fun _ => True) ?hr ?hp (fun _ hk => hk) trivial (Below.refl _ _) (Nat.le_refl _) (by simp) ?_; (case hd => rfl); (case hg => rfl); (case hr => first | (go_simp; done) | (go_simp; rfl)); (case hp => exact (Reps.none _ _))
              intro v285 w57 ho58 hb hg_ hnew_
              clear hg_ hnew_
              (first | rw [← Ny284.out] at ho58 | (simp only [Int.reduceToNat] at ho58; rw [← Ny284.out] at ho58))
              replace HO283 := Aside0.mk (Kd.S_elder' (rS_ HO283.out) (ZS ho58) hb)
              have HO286 := Aside0.mk (ZI ho58 (Zl hB_))
              replace BK263 := Aside0.mk (Zc (g := gb263) (o := .cells #[.int .i64 a0_0, .slice (some ad267) l0_1.length c0_1] 27 (0, 0)) (bk_ BK263.out) hb)
              replace BK264 := Aside0.mk (Zc (g := gb264) (o := .cells #[.int .i64 0, .slice none 0 0] 27 (0, 0)) (bk_ BK264.out) hb)
              replace BK265 := Aside0.mk (Zc (g := gb265) (o := .cells #[.int .i64 a0_0, .slice Ao53 y281.length co53] 27 (0, 0)) (bk_ BK265.out) hb)
              replace HB := Aside0.mk (Ze hB_ hb)
              clear hb ho58
              refine hK.out _ _ ⟨(Za BK265.out 0).trans rfl, (Za BK265.out 1).trans rfl⟩ (fun hHeld => ?_)
              clear hK K
              refine no_ 64 ?_
              refine on_ 4 66 #[Y,Y,Y,Y,Y,O,O,O,O] (fun K hK => ?_)
              refine Kd.R_append_rows_step (Kd.int .i64) (w0 := w) w.heap.size (by rfl) (.tmp 64) (.tmp 65) 31 3 (.int .i64 0) 8 rfl Try.underlying31 info3 rfl (by decide) (by omega) v285 y284 (rd_L1 l0_1 x10_1) _ _ _ (fun _ => True) (fun _ => False) rfl rfl ?aO ?aR (fun _ _ h => h) (fun _ h => h.elim) ?aF ?aB ?aS ?aL ?_
              (case aR => exact cb_ HR267_0.out)
              (case aB => exact hB_)
              (case aF => exact (fun _ _ => trivial))
              (case aO => exact (rR_ HO286.out))
              (case aS => exact (Zl hB_))
              (case aL => have := LMc42.out; omega)
              intro v288 w59 ho hb hg hat
              rw [← Ny287.out] at ho
              have n0_ := Aside0.mk (ZO (g := gb263) (o := .cells #[.int .i64 a0_0, .slice (some ad267) l0_1.length c0_1] 27 (0, 0)) (bk_ BK263.out) hg (Kd.R_ne HO286.out BK263.out (by decide)))
              have n1_ := Aside0.mk (ZO (g := gb264) (o := .cells #[.int .i64 0, .slice none 0 0] 27 (0, 0)) (bk_ BK264.out) hg (Kd.R_ne HO286.out BK264.out (by decide)))
              have n2_ := Aside0.mk (ZO (g := gb265) (o := .cells #[.int .i64 a0_0, .slice Ao53 y281.length co53] 27 (0, 0)) (bk_ BK265.out) hg (Kd.R_ne HO286.out BK265.out (by decide)))
              have n3_ := Aside0.mk (Kd.S_after (ok := (fun _ => True)) (rS_ HO283.out) hg hat)
              have n4_ := Aside0.mk (hb)
              have n5_ := Aside0.mk (ho)
              clear BK263
              clear BK264
              clear BK265
              clear HO283
              clear HB
              clear HO286
              have BK263 := n0_
              have BK264 := n1_
              have BK265 := n2_
              have HO283 := n3_
              have HB := n4_
              have HO289 := n5_
              clear n0_ n1_ n2_ n3_ n4_ n5_
              clear ho hb hg hat
              obtain ⟨Ao61, co61, eo61⟩ := ZP HO289.out
              (first | subst eo61 | (injection eo61 with f1_ f2_ f3_; have f4_ := f1_.symm; have f5_ := f3_.symm; clear f1_ f2_ f3_; subst f4_; subst f5_))
              refine hK.out _ _ ⟨(Za BK265.out 0).trans rfl, (Za BK265.out 1).trans rfl⟩ (fun hHeld => ?_)
              clear hK K
              refine no_ 66 ?_
              refine on_ 5 67 #[Y,Y,Y,Y,Y,Y,O,O,O] (fun K hK => ?_)
              refine value_ (w1 := ?_) (v := ?_) (by rfl) rfl ?_ ?_
              rotate_left 2
              ·go_simp
               constructor
               ·rfl
               ·rfl
              refine hK.out _ _ ⟨(Za (Zf BK265.out _) 0).trans rfl, (Za (Zf BK265.out _) 1).trans rfl⟩ (fun hHeld => ?_)
              clear hK K
              refine no_ 67 ?_
              refine on_ 6 68 #[Y,Y,Y,Y,Y,Y,Y,O,O] (fun K hK => ?_)
              refine Kd.S_append_step (Kd.slice 3 (Kd.int .i64)) (w0 := w) w.heap.size (by rfl) (.tmp 63) (.tmp 67) 22 31 (.slice none 0 0) 24 rfl Try.underlying22 info31 rfl (by decide) (by omega) (.slice Ao53 y281.length co53) y281 y287 [.slice Ao61 y287.length co61] (fun _ => True) (fun k_ => some k_ = (.slice Ao61 y287.length co61 : Value).ownBlock) rfl rfl ?aP (fun k_ hk_ => ((Zz (ok' := fun k_ => ((fun _ => True)) k_ ∧ some k_ ≠ (.slice Ao53 y281.length co53 : Value).ownBlock) (Kd.R_apart' (HO289.out) (Kd.S_typed HO283.out) (by decide)) (fun k_ hk => ⟨trivial, hk.2⟩))).1 k_ hk_.symm) ?aF ?aO ?aB ?aS ?aL ?_
              (case aP => exact Kd.M_row (Zz (Kd.R_tight rfl (Zz (ok' := fun k_ => ((fun _ => True)) k_ ∧ some k_ ≠ (.slice Ao53 y281.length co53 : Value).ownBlock) (Kd.R_apart' (HO289.out) (Kd.S_typed HO283.out) (by decide)) (fun k_ hk => ⟨trivial, hk.2⟩))) (fun _ h_ => h_)))
              (case aB => exact hB_)
              (case aF => exact (fun _ _ => trivial))
              (case aO => exact (by (with_reducible repeat (first | apply Zy | apply Zx | apply Zr)); exact Zs HO283.out (fun k_ hk => ⟨trivial, fun e_ => hk.2 e_⟩)))
              (case aS => exact (Zl hB_))
              (case aL => have := LMc43.out; omega)
              intro v291 w60 ho hb hg hat
              rw [← Ny290.out] at ho
              have n0_ := Aside0.mk (ZO (g := gb263) (o := .cells #[.int .i64 a0_0, .slice (some ad267) l0_1.length c0_1] 27 (0, 0)) (bk_ BK263.out) hg (Kd.S_ne HO283.out BK263.out (by decide)))
              have n1_ := Aside0.mk (ZO (g := gb264) (o := .cells #[.int .i64 0, .slice none 0 0] 27 (0, 0)) (bk_ BK264.out) hg (Kd.S_ne HO283.out BK264.out (by decide)))
              have n2_ := Aside0.mk (ZO (g := gb265) (o := .cells #[.int .i64 a0_0, .slice Ao53 y281.length co53] 27 (0, 0)) (bk_ BK265.out) hg (Kd.S_ne HO283.out BK265.out (by decide)))
              have n3_ := Aside0.mk (hb)
              have n4_ := Aside0.mk (ho)
              clear BK263
              clear BK264
              clear BK265
              clear HB
              clear HO283
              clear HO289
              have BK263 := n0_
              have BK264 := n1_
              have BK265 := n2_
              have HB := n3_
              have HO292 := n4_
              clear n0_ n1_ n2_ n3_ n4_
              clear ho hb hg hat
              obtain ⟨Ao62, co62, eo62⟩ := Kd.S_slice HO292.out
              (first | subst eo62 | (injection eo62 with f1_ f2_ f3_; have f4_ := f1_.symm; have f5_ := f3_.symm; clear f1_ f2_ f3_; subst f4_; subst f5_))
              refine hK.out _ _ ⟨(Za BK265.out 0).trans rfl, (Za BK265.out 1).trans rfl⟩ (fun hHeld => ?_)
              clear hK K
              refine no_ 68 ?_
              refine pu_ 7 69 #[Y,Y,Y,Y,Y,Y,Y,Y,O] ?_
              refine last_ (i := 8) (N := none) #[Y,Y,Y,Y,Y,Y,Y,Y,Y] rfl rfl (one_of HT_.out (by kernel_rfl)) (by decide) (fun K hK => ?_)
              have hs63 : w60.cell? ⟨gb265, 1, none⟩ = some (.slice Ao53 y281.length co53) := (Za BK265.out 1).trans rfl
              have hfs63 := Zb BK265.out 1
              have hns63_0 := NB263_265.out
              have hns63_1 := NB264_265.out
              have hms63_0 := NB265_263.out
              have hms63_1 := NB265_264.out
              refine skip_ (w1 := ?_) (by rfl) rfl ?_ ?_
              rotate_left
              ·go_simp
               rfl
              refine hK.out _ _ ?_
              clear hK K
              refine done_ (done_of HT_.out (by kernel_rfl)) ?_
              try go_wp2
              go_roundg kj11
              case measure => have := HK1.out; have := HJ11.out; omega
              case rel => exact ⟨(true), (wrap64 (x10_1 + 1)), (y290), (.slice Ao62 y290.length co62), sm_, sm_, H', ⟨by have := HK1.out; have := HJ11.out; omega⟩, ⟨by (with_reducible repeat (first | apply Zy | apply Zx | apply Zr)); exact Zs (Zw (p := ⟨gb265, 1, none⟩) (ZC HO292.out BK265.out (by decide)) (fun _ hk => hk.2) (.slice Ao62 y290.length co62)) (fun _ hk => trivial)⟩, ⟨by (with_reducible repeat (first | refine Zg ?_ _ | refine Zd ?_ | refine Zf ?_ _)); refine ZK ?_ NB263_265.out _; (with_reducible repeat (first | refine Zg ?_ _ | refine Zd ?_ | refine Zf ?_ _)); exact BK263.out⟩, ⟨by (with_reducible repeat (first | refine Zg ?_ _ | refine Zd ?_ | refine Zf ?_ _)); refine ZK ?_ NB264_265.out _; (with_reducible repeat (first | refine Zg ?_ _ | refine Zd ?_ | refine Zf ?_ _)); exact BK264.out⟩, ⟨by (with_reducible repeat (first | refine Zg ?_ _ | refine Zd ?_ | refine Zf ?_ _)); refine ZT (cs := #[.int .i64 a0_0, .slice Ao53 y281.length co53]) ?_ 1 _ rfl; (with_reducible repeat (first | refine Zg ?_ _ | refine Zd ?_ | refine Zf ?_ _)); exact BK265.out⟩, ⟨hB_⟩⟩
             ·rw [if_neg c43] at H
              exact absurd H (by simp)
            ·rw [if_neg c42] at H
             exact absurd H (by simp)
           ·rw [if_neg c41] at H
            exact absurd H (by simp)
          ·rw [if_neg c40] at H
           have c40b0 : decide (a1 < (rd (rd_L1 l0_1 x10_1) 0)) = false := decide_eq_false c40
           clear c40
           by_cases c64 : (rd (rd_L1 l0_1 x10_1) 0) = a1
           ·rw [if_pos c64] at H
            have c64b0 : ((rd (rd_L1 l0_1 x10_1) 0) == a1) = true := beq_iff_eq.mpr c64
            have c64b1 : ((rd (rd_L1 l0_1 x10_1) 0) != a1) = false := bne_eq_false_iff_eq.mpr c64
            clear c64
            by_cases c65 : 1 < ((rd_L1 l0_1 x10_1).length : Int)
            ·rw [if_pos c65] at H
             have c65b0 : decide (1 < ((rd_L1 l0_1 x10_1).length : Int)) = true := decide_eq_true c65
             have c65b1 : decide (1 < (rd_L1 l0_1 x10_1).length) = true := decide_eq_true (by omega)
             clear c65
             by_cases c66 : (rd (rd_L1 l0_1 x10_1) 1) > a2
             ·rw [if_pos c66] at H
              have c66b0 : decide (a2 < (rd (rd_L1 l0_1 x10_1) 1)) = true := decide_eq_true c66
              clear c66
              obtain ⟨y295, hy295⟩ : ∃ y_ : List Int, y_ = (([a1, a2] : List Int)) := ⟨_, rfl⟩
              replace H : (if x266001_1.length < 5864062014805 then ((some (x266001_1 ++ [y295] : List (List Int))).bind fun y298 => ((some (([] : List Int) : List Int)).bind fun y301 => (if y301.length + (rd_L1 l0_1 x10_1).length < 17592186044416 then (if y298.length < 5864062014805 then (spec_AddAttack.l0 kj11 a1 a2 true (wrap64 (x10_1 + 1)) a0_0 l0_1 a0_0 (y298 ++ [(y301 ++ (rd_L1 l0_1 x10_1))])) else (none)) else (none)))) else (none)) = some (r1, r2, r3) := hy_ hy295 H
              have Ny295 := Aside0.mk hy295
              clear hy295
              by_cases c67 : x266001_1.length < 5864062014805
              ·rw [if_pos c67] at H
               have LMc67 := Aside0.mk c67
               clear c67
               obtain ⟨y298, hy298⟩ : ∃ y_ : List (List Int), y_ = (x266001_1 ++ [y295]) := ⟨_, rfl⟩
               replace H : ((some (([] : List Int) : List Int)).bind fun y301 => (if y301.length + (rd_L1 l0_1 x10_1).length < 17592186044416 then (if y298.length < 5864062014805 then (spec_AddAttack.l0 kj11 a1 a2 true (wrap64 (x10_1 + 1)) a0_0 l0_1 a0_0 (y298 ++ [(y301 ++ (rd_L1 l0_1 x10_1))])) else (none)) else (none))) = some (r1, r2, r3) := hy_ hy298 H
               have Ny298 := Aside0.mk hy298
               clear hy298
               obtain ⟨y301, hy301⟩ : ∃ y_ : List Int, y_ = (([] : List Int)) := ⟨_, rfl⟩
               replace H : (if y301.length + (rd_L1 l0_1 x10_1).length < 17592186044416 then (if y298.length < 5864062014805 then (spec_AddAttack.l0 kj11 a1 a2 true (wrap64 (x10_1 + 1)) a0_0 l0_1 a0_0 (y298 ++ [(y301 ++ (rd_L1 l0_1 x10_1))])) else (none)) else (none)) = some (r1, r2, r3) := hy_ hy301 H
               have Ny301 := Aside0.mk hy301
               clear hy301
               by_cases c68 : y301.length + (rd_L1 l0_1 x10_1).length < 17592186044416
               ·rw [if_pos c68] at H
                have LMc68 := Aside0.mk c68
                clear c68
                obtain ⟨y304, hy304⟩ : ∃ y_ : List Int, y_ = (y301 ++ (rd_L1 l0_1 x10_1)) := ⟨_, rfl⟩
                replace H : (if y298.length < 5864062014805 then (spec_AddAttack.l0 kj11 a1 a2 true (wrap64 (x10_1 + 1)) a0_0 l0_1 a0_0 (y298 ++ [y304])) else (none)) = some (r1, r2, r3) := hy_ hy304 H
                have Ny304 := Aside0.mk hy304
                clear hy304
                by_cases c69 : y298.length < 5864062014805
                ·rw [if_pos c69] at H
                 have LMc69 := Aside0.mk c69
                 clear c69
                 obtain ⟨y307, hy307⟩ : ∃ y_ : List (List Int), y_ = (y298 ++ [y304]) := ⟨_, rfl⟩
                 replace H : (spec_AddAttack.l0 kj11 a1 a2 true (wrap64 (x10_1 + 1)) a0_0 l0_1 a0_0 y307) = some (r1, r2, r3) := hy_ hy307 H
                 have Ny307 := Aside0.mk hy307
                 clear hy307
                 have H' := Aside0.mk H
                 clear H
                 have hnb70 := NB263_264.out
                 have hnc70 := NB264_263.out
                 have hnb71 := NB263_265.out
                 have hnc71 := NB265_263.out
                 have hcz72_0 : wc.cell? ⟨gb263, 0, none⟩ = some (.int .i64 a0_0) := (Za BK263.out 0).trans rfl
                 have hcz72_1 : wc.cell? ⟨gb263, 1, none⟩ = some (.slice A0_1 l0_1.length c0_1) := (Za BK263.out 1).trans rfl
                 have hfz72_0 := Zb BK263.out 0
                 have hfz72_1 := Zb BK263.out 1
                 have p267 : 0 ≤ (x10_1 : Int) := of_decide_eq_true as_
                 have q267 : x10_1 < (l0_1.length : Int) := of_decide_eq_true as_
                 obtain ⟨ad267, A267_0, c267_0, e267, hx267_0, hl267_0, hi267_0⟩ := at_L1 HR0_1.out x10_1 p267 q267
                 cases e267
                 replace hx267_0 := (HB.out.cell (World.block_lt_of_cell? w _ hx267_0)).trans hx267_0
                 have HR267_0 := Aside0.mk hi267_0
                 have HC267_0 := Aside0.mk hl267_0
                 clear hi267_0 hl267_0
                 replace p267 := eq_true p267
                 replace q267 := eq_true q267
                 have p277 : 0 ≤ (0 : Int) := (by omega)
                 have q277 : 0 < ((rd_L1 l0_1 x10_1).length : Int) := of_decide_eq_true as_
                 obtain ⟨ad277, e277, hx277_0⟩ := Zv HR267_0.out 0 p277 q277
                 cases e277
                 have qi277 : (0 < (rd_L1 l0_1 x10_1).length) = True := eq_true (by omega)
                 (try rw [show ((0 : Int)).toNat = 0 from rfl] at hx277_0)
                 (try rw [Addr.add_zero'] at hx277_0)
                 replace hx277_0 := (HB.out.cell (World.block_lt_of_cell? w _ hx277_0)).trans hx277_0
                 replace p277 := eq_true p277
                 replace q277 := eq_true q277
                 have p293 : 0 ≤ (0 : Int) := (by omega)
                 have q293 : 0 < ((rd_L1 l0_1 x10_1).length : Int) := of_decide_eq_true as_
                 obtain ⟨ad293, e293, hx293_0⟩ := Zv HR267_0.out 0 p293 q293
                 obtain rfl : ad277 = ad293 := (by injection e293)
                 have qi293 : (0 < (rd_L1 l0_1 x10_1).length) = True := eq_true (by omega)
                 (try rw [show ((0 : Int)).toNat = 0 from rfl] at hx293_0)
                 (try rw [Addr.add_zero'] at hx293_0)
                 replace hx293_0 := (HB.out.cell (World.block_lt_of_cell? w _ hx293_0)).trans hx293_0
                 replace p293 := eq_true p293
                 replace q293 := eq_true q293
                 have p294 : 0 ≤ (1 : Int) := (by omega)
                 have q294 : 1 < ((rd_L1 l0_1 x10_1).length : Int) := of_decide_eq_true as_
                 obtain ⟨ad294, e294, hx294_0⟩ := Zv HR267_0.out 1 p294 q294
                 obtain rfl : ad277 = ad294 := (by injection e294)
                 (try simp only [show (1 : Int).toNat = 1 from rfl, Nat.reduceMul, Nat.reduceEqDiff, Go.Addr.add, ↓reduceIte] at hx294_0)
                 have qi294 : (1 < (rd_L1 l0_1 x10_1).length) = True := eq_true (by omega)
                 (try rw [show ((1 : Int)).toNat = 1 from rfl] at hx294_0)
                 replace hx294_0 := (HB.out.cell (World.block_lt_of_cell? w _ hx294_0)).trans hx294_0
                 replace p294 := eq_true p294
                 replace q294 := eq_true q294
                 have hnb73 := NB265_264.out
                 have hnc73 := NB264_265.out
                 have hcz74_0 : wc.cell? ⟨gb265, 0, none⟩ = some (.int .i64 a0_0) := (Za BK265.out 0).trans rfl
                 have hcz74_1 : wc.cell? ⟨gb265, 1, none⟩ = some (u266001) := (Za BK265.out 1).trans rfl
                 have hfz74_0 := Zb BK265.out 0
                 have hfz74_1 := Zb BK265.out 1
                 try go_wp2_with (first | ((with_reducible refine ZD (N := 58) rfl ?_); refine Kd.R_lit (Kd.int .i64) _ 3 ?hg (N := 58) ?hd (xs := ([a1, a2] : List Int)) (inner := [.int .i64 a1, .int .i64 a2]) (ok := fun _ => True) (okp := fun _ => True) ?hr ?hp (fun _ hk => hk) trivial (Below.refl _ _) (Nat.le_refl _) (by simp) ?_; (case hd => rfl); (case hg => rfl); (case hr => first | (go_simp; done) | (go_simp; rfl)); (case hp => exact (Reps.one (show Kd.M (Kd.int .i64) _ _ _ a1 [.int .i64 a1] from rfl) (Reps.one (show Kd.M (Kd.int .i64) _ _ _ a2 [.int .i64 a2] from rfl) (Reps.none _ _)))); intro v296 w75 ho76 hb hg_ hnew_; clear hg_ hnew_; (first | rw [← Ny295.out] at ho76 | (simp only [Int.reduceToNat] at ho76; rw [← Ny295.out] at ho76)); replace HO_266001 := Aside0.mk (Kd.S_elder' (rS_ HO_266001.out) (ZS ho76) hb); have HO297 := Aside0.mk (ZI ho76 (Zl hB_)); replace BK263 := Aside0.mk (Zc (g := gb263) (o := .cells #[.int .i64 a0_0, .slice (some ad267) l0_1.length c0_1] 27 (0, 0)) (bk_ BK263.out) hb); replace BK264 := Aside0.mk (Zc (g := gb264) (o := .cells #[.int .i64 0, .slice none 0 0] 27 (0, 0)) (bk_ BK264.out) hb); replace BK265 := Aside0.mk (Zc (g := gb265) (o := .cells #[.int .i64 a0_0, u266001] 27 (0, 0)) (bk_ BK265.out) hb); replace HB := Aside0.mk (Ze hB_ hb); clear hb ho76; obtain ⟨Ao78, co78, eo78⟩ := ZP HO297.out; subst eo78) | ((with_reducible refine gate_builtin (b := .append) (xs := #[.tmp 55, .tmp 59]) rfl ?_); at_builtin; refine Kd.S_append (Kd.slice 3 (Kd.int .i64)) (w0 := w) w.heap.size rfl (.tmp 55) (.tmp 59) 22 31 (.slice none 0 0) 24 rfl Try.underlying22 info31 rfl (by decide) (by omega) u266001 x266001_1 y295 [.slice Ao78 y295.length co78] (fun _ => True) (fun k_ => some k_ = (.slice Ao78 y295.length co78 : Value).ownBlock) rfl rfl ?aP (fun k_ hk_ => ((Zz (ok' := fun k_ => ((fun _ => True)) k_ ∧ some k_ ≠ (u266001 : Value).ownBlock) (Kd.R_apart' (HO297.out) (Kd.S_typed HO_266001.out) (by decide)) (fun k_ hk => ⟨trivial, hk.2⟩))).1 k_ hk_.symm) ?aF ?aO ?aB ?aS ?aL ?_; (case aP => exact Kd.M_row (Zz (Kd.R_tight rfl (Zz (ok' := fun k_ => ((fun _ => True)) k_ ∧ some k_ ≠ (u266001 : Value).ownBlock) (Kd.R_apart' (HO297.out) (Kd.S_typed HO_266001.out) (by decide)) (fun k_ hk => ⟨trivial, hk.2⟩))) (fun _ h_ => h_))); (case aB => exact hB_); (case aF => exact (fun _ _ => trivial)); (case aO => exact (by (with_reducible repeat (first | apply Zy | apply Zx | apply Zr)); exact Zs HO_266001.out (fun k_ hk => ⟨trivial, fun e_ => hk.2 e_⟩))); (case aS => exact (Zl hB_)); (case aL => have := LMc67.out; omega); intro v299 w77 ho hb hg hat; rw [← Ny298.out] at ho; have n0_ := Aside0.mk (ZO (g := gb263) (o := .cells #[.int .i64 a0_0, .slice (some ad267) l0_1.length c0_1] 27 (0, 0)) (bk_ BK263.out) hg (Kd.S_ne HO_266001.out BK263.out (by decide))); have n1_ := Aside0.mk (ZO (g := gb264) (o := .cells #[.int .i64 0, .slice none 0 0] 27 (0, 0)) (bk_ BK264.out) hg (Kd.S_ne HO_266001.out BK264.out (by decide))); have n2_ := Aside0.mk (ZO (g := gb265) (o := .cells #[.int .i64 a0_0, u266001] 27 (0, 0)) (bk_ BK265.out) hg (Kd.S_ne HO_266001.out BK265.out (by decide))); have n3_ := Aside0.mk (hb); have n4_ := Aside0.mk (ho); clear BK263; clear BK264; clear BK265; clear HB; clear HO_266001; clear HO297; have BK263 := n0_; have BK264 := n1_; have BK265 := n2_; have HB := n3_; have HO300 := n4_; clear n0_ n1_ n2_ n3_ n4_; clear ho hb hg hat; obtain ⟨Ao79, co79, eo79⟩ := Kd.S_slice HO300.out; subst eo79; have hcz80_0 : w77.cell? ⟨gb265, 0, none⟩ = some (.int .i64 a0_0) := (Za BK265.out 0).trans rfl; have hcz80_1 : w77.cell? ⟨gb265, 1, none⟩ = some (u266001) := (Za BK265.out 1).trans rfl; have hfz80_0 := Zb BK265.out 0; have hfz80_1 := Zb BK265.out 1))
                 have n0_ : Aside0 (Kd.S (Kd.slice 3 (Kd.int .i64)) 31 (w77.setCell ⟨gb265, 1, none⟩ (.slice Ao79 y298.length co79)) w.heap.size (fun _ => True) (.slice Ao79 y298.length co79) y298) := ⟨by (with_reducible repeat (first | apply Zy | apply Zx | apply Zr)); exact Zs (Zw (p := ⟨gb265, 1, none⟩) (ZC HO300.out BK265.out (by decide)) (fun _ hk => hk.2) (.slice Ao79 y298.length co79)) (fun _ hk => trivial)⟩
                 have n1_ : Aside0 ((w77.setCell ⟨gb265, 1, none⟩ (.slice Ao79 y298.length co79)).heap[gb263]? = some (.cells #[.int .i64 a0_0, .slice (some ad267) l0_1.length c0_1] 27 (0, 0))) := ⟨by (with_reducible repeat (first | refine Zg ?_ _ | refine Zd ?_ | refine Zf ?_ _)); refine ZK ?_ NB263_265.out _; (with_reducible repeat (first | refine Zg ?_ _ | refine Zd ?_ | refine Zf ?_ _)); exact BK263.out⟩
                 have n2_ : Aside0 ((w77.setCell ⟨gb265, 1, none⟩ (.slice Ao79 y298.length co79)).heap[gb264]? = some (.cells #[.int .i64 0, .slice none 0 0] 27 (0, 0))) := ⟨by (with_reducible repeat (first | refine Zg ?_ _ | refine Zd ?_ | refine Zf ?_ _)); refine ZK ?_ NB264_265.out _; (with_reducible repeat (first | refine Zg ?_ _ | refine Zd ?_ | refine Zf ?_ _)); exact BK264.out⟩
                 have n3_ : Aside0 ((w77.setCell ⟨gb265, 1, none⟩ (.slice Ao79 y298.length co79)).heap[gb265]? = some (.cells #[.int .i64 a0_0, .slice Ao79 y298.length co79] 27 (0, 0))) := ⟨by (with_reducible repeat (first | refine Zg ?_ _ | refine Zd ?_ | refine Zf ?_ _)); refine ZT (cs := #[.int .i64 a0_0, u266001]) ?_ 1 _ rfl; (with_reducible repeat (first | refine Zg ?_ _ | refine Zd ?_ | refine Zf ?_ _)); exact BK265.out⟩
                 have n4_ : Aside0 (Below w.heap.size w (w77.setCell ⟨gb265, 1, none⟩ (.slice Ao79 y298.length co79))) := ⟨hB_⟩
                 (try clear HO300)
                 (try clear BK263)
                 (try clear BK264)
                 (try clear BK265)
                 (try clear HB)
                 generalize (w77.setCell ⟨gb265, 1, none⟩ (.slice Ao79 y298.length co79)) = w81 at n0_ n1_ n2_ n3_ n4_ ⊢
                 have HO300 := n0_
                 have BK263 := n1_
                 have BK264 := n2_
                 have BK265 := n3_
                 have HB := n4_
                 clear n0_ n1_ n2_ n3_ n4_
                 replace HO300 := Aside0.mk (Zr HO300.out)
                 replace BK263 := Aside0.mk (Zd BK263.out)
                 replace BK264 := Aside0.mk (Zd BK264.out)
                 replace BK265 := Aside0.mk (Zd BK265.out)
                 replace HB := Aside0.mk (Zi HB.out)
                 refine start_ (n := 9) (S := fun w' => w'.cell? ⟨gb265, 0, none⟩ = some (.int .i64 a0_0) ∧ w'.cell? ⟨gb265, 1, none⟩ = some (.slice Ao79 y298.length co79)) (ds := [8]) #[O,O,O,O,O,O,O,O,O] (by kernel_rfl) rfl rfl ⟨(Za BK265.out 0).trans rfl, (Za BK265.out 1).trans rfl⟩ (fun hHeld => ?_); refine with_tabW spec_AddAttack.tab10 spec_AddAttack.bits10 (fun HT_ HW_ => ?_)
                 generalize w81.drew = w82 at HO300 BK263 BK264 BK265 HB hHeld ⊢
                 refine pu_ 0 62 #[Y,O,O,O,O,O,O,O,O] ?_
                 refine pu_ 3 65 #[Y,O,O,Y,O,O,O,O,O] ?_
                 refine tk2_ 1 63 #[Y,Y,O,Y,O,O,O,O,O] hHeld ?_
                 refine on_ 2 64 #[Y,Y,Y,Y,O,O,O,O,O] (fun K hK => ?_)
                 refine Kd.R_lit_step (Kd.int .i64) _ 3 ?hg (N := 64) ?hd (xs := ([] : List Int)) (inner := []) (ok := fun _ => True) (okp := fun _ => True) ?hr ?hp (fun _ hk => hk) trivial (Below.refl _ _) (Nat.le_refl _) (by simp) ?_; (case hd => rfl); (case hg => rfl); (case hr => first | (go_simp; done) | (go_simp; rfl)); (case hp => exact (Reps.none _ _))
                 intro v302 w83 ho84 hb hg_ hnew_
                 clear hg_ hnew_
                 (first | rw [← Ny301.out] at ho84 | (simp only [Int.reduceToNat] at ho84; rw [← Ny301.out] at ho84))
                 replace HO300 := Aside0.mk (Kd.S_elder' (rS_ HO300.out) (ZS ho84) hb)
                 have HO303 := Aside0.mk (ZI ho84 (Zl hB_))
                 replace BK263 := Aside0.mk (Zc (g := gb263) (o := .cells #[.int .i64 a0_0, .slice (some ad267) l0_1.length c0_1] 27 (0, 0)) (bk_ BK263.out) hb)
                 replace BK264 := Aside0.mk (Zc (g := gb264) (o := .cells #[.int .i64 0, .slice none 0 0] 27 (0, 0)) (bk_ BK264.out) hb)
                 replace BK265 := Aside0.mk (Zc (g := gb265) (o := .cells #[.int .i64 a0_0, .slice Ao79 y298.length co79] 27 (0, 0)) (bk_ BK265.out) hb)
                 replace HB := Aside0.mk (Ze hB_ hb)
                 clear hb ho84
                 refine hK.out _ _ ⟨(Za BK265.out 0).trans rfl, (Za BK265.out 1).trans rfl⟩ (fun hHeld => ?_)
                 clear hK K
                 refine no_ 64 ?_
                 refine on_ 4 66 #[Y,Y,Y,Y,Y,O,O,O,O] (fun K hK => ?_)
                 refine Kd.R_append_rows_step (Kd.int .i64) (w0 := w) w.heap.size (by rfl) (.tmp 64) (.tmp 65) 31 3 (.int .i64 0) 8 rfl Try.underlying31 info3 rfl (by decide) (by omega) v302 y301 (rd_L1 l0_1 x10_1) _ _ _ (fun _ => True) (fun _ => False) rfl rfl ?aO ?aR (fun _ _ h => h) (fun _ h => h.elim) ?aF ?aB ?aS ?aL ?_
                 (case aR => exact cb_ HR267_0.out)
                 (case aB => exact hB_)
                 (case aF => exact (fun _ _ => trivial))
                 (case aO => exact (rR_ HO303.out))
                 (case aS => exact (Zl hB_))
                 (case aL => have := LMc68.out; omega)
                 intro v305 w85 ho hb hg hat
                 rw [← Ny304.out] at ho
                 have n0_ := Aside0.mk (ZO (g := gb263) (o := .cells #[.int .i64 a0_0, .slice (some ad267) l0_1.length c0_1] 27 (0, 0)) (bk_ BK263.out) hg (Kd.R_ne HO303.out BK263.out (by decide)))
                 have n1_ := Aside0.mk (ZO (g := gb264) (o := .cells #[.int .i64 0, .slice none 0 0] 27 (0, 0)) (bk_ BK264.out) hg (Kd.R_ne HO303.out BK264.out (by decide)))
                 have n2_ := Aside0.mk (ZO (g := gb265) (o := .cells #[.int .i64 a0_0, .slice Ao79 y298.length co79] 27 (0, 0)) (bk_ BK265.out) hg (Kd.R_ne HO303.out BK265.out (by decide)))
                 have n3_ := Aside0.mk (Kd.S_after (ok := (fun _ => True)) (rS_ HO300.out) hg hat)
                 have n4_ := Aside0.mk (hb)
                 have n5_ := Aside0.mk (ho)
                 clear BK263
                 clear BK264
                 clear BK265
                 clear HO300
                 clear HB
                 clear HO303
                 have BK263 := n0_
                 have BK264 := n1_
                 have BK265 := n2_
                 have HO300 := n3_
                 have HB := n4_
                 have HO306 := n5_
                 clear n0_ n1_ n2_ n3_ n4_ n5_
                 clear ho hb hg hat
                 obtain ⟨Ao87, co87, eo87⟩ := ZP HO306.out
                 (first | subst eo87 | (injection eo87 with f1_ f2_ f3_; have f4_ := f1_.symm; have f5_ := f3_.symm; clear f1_ f2_ f3_; subst f4_; subst f5_))
                 refine hK.out _ _ ⟨(Za BK265.out 0).trans rfl, (Za BK265.out 1).trans rfl⟩ (fun hHeld => ?_)
                 clear hK K
                 refine no_ 66 ?_
                 refine on_ 5 67 #[Y,Y,Y,Y,Y,Y,O,O,O] (fun K hK => ?_)
                 refine value_ (w1 := ?_) (v := ?_) (by rfl) rfl ?_ ?_
                 rotate_left 2
                 ·go_simp
                  constructor
                  ·rfl
                  ·rfl
                 refine hK.out _ _ ⟨(Za (Zf BK265.out _) 0).trans rfl, (Za (Zf BK265.out _) 1).trans rfl⟩ (fun hHeld => ?_)
                 clear hK K
                 refine no_ 67 ?_
                 refine on_ 6 68 #[Y,Y,Y,Y,Y,Y,Y,O,O] (fun K hK => ?_)
                 refine Kd.S_append_step (Kd.slice 3 (Kd.int .i64)) (w0 := w) w.heap.size (by rfl) (.tmp 63) (.tmp 67) 22 31 (.slice none 0 0) 24 rfl Try.underlying22 info31 rfl (by decide) (by omega) (.slice Ao79 y298.length co79) y298 y304 [.slice Ao87 y304.length co87] (fun _ => True) (fun k_ => some k_ = (.slice Ao87 y304.length co87 : Value).ownBlock) rfl rfl ?aP (fun k_ hk_ => ((Zz (ok' := fun k_ => ((fun _ => True)) k_ ∧ some k_ ≠ (.slice Ao79 y298.length co79 : Value).ownBlock) (Kd.R_apart' (HO306.out) (Kd.S_typed HO300.out) (by decide)) (fun k_ hk => ⟨trivial, hk.2⟩))).1 k_ hk_.symm) ?aF ?aO ?aB ?aS ?aL ?_
                 (case aP => exact Kd.M_row (Zz (Kd.R_tight rfl (Zz (ok' := fun k_ => ((fun _ => True)) k_ ∧ some k_ ≠ (.slice Ao79 y298.length co79 : Value).ownBlock) (Kd.R_apart' (HO306.out) (Kd.S_typed HO300.out) (by decide)) (fun k_ hk => ⟨trivial, hk.2⟩))) (fun _ h_ => h_)))
                 (case aB => exact hB_)
                 (case aF => exact (fun _ _ => trivial))
                 (case aO => exact (by (with_reducible repeat (first | apply Zy | apply Zx | apply Zr)); exact Zs HO300.out (fun k_ hk => ⟨trivial, fun e_ => hk.2 e_⟩)))
                 (case aS => exact (Zl hB_))
                 (case aL => have := LMc69.out; omega)
                 intro v308 w86 ho hb hg hat
                 rw [← Ny307.out] at ho
                 have n0_ := Aside0.mk (ZO (g := gb263) (o := .cells #[.int .i64 a0_0, .slice (some ad267) l0_1.length c0_1] 27 (0, 0)) (bk_ BK263.out) hg (Kd.S_ne HO300.out BK263.out (by decide)))
                 have n1_ := Aside0.mk (ZO (g := gb264) (o := .cells #[.int .i64 0, .slice none 0 0] 27 (0, 0)) (bk_ BK264.out) hg (Kd.S_ne HO300.out BK264.out (by decide)))
                 have n2_ := Aside0.mk (ZO (g := gb265) (o := .cells #[.int .i64 a0_0, .slice Ao79 y298.length co79] 27 (0, 0)) (bk_ BK265.out) hg (Kd.S_ne HO300.out BK265.out (by decide)))
                 have n3_ := Aside0.mk (hb)
                 have n4_ := Aside0.mk (ho)
                 clear BK263
                 clear BK264
                 clear BK265
                 clear HB
                 clear HO300
                 clear HO306
                 have BK263 := n0_
                 have BK264 := n1_
                 have BK265 := n2_
                 have HB := n3_
                 have HO309 := n4_
                 clear n0_ n1_ n2_ n3_ n4_
                 clear ho hb hg hat
                 obtain ⟨Ao88, co88, eo88⟩ := Kd.S_slice HO309.out
                 (first | subst eo88 | (injection eo88 with f1_ f2_ f3_; have f4_ := f1_.symm; have f5_ := f3_.symm; clear f1_ f2_ f3_; subst f4_; subst f5_))
                 refine hK.out _ _ ⟨(Za BK265.out 0).trans rfl, (Za BK265.out 1).trans rfl⟩ (fun hHeld => ?_)
                 clear hK K
                 refine no_ 68 ?_
                 refine pu_ 7 69 #[Y,Y,Y,Y,Y,Y,Y,Y,O] ?_
                 refine last_ (i := 8) (N := none) #[Y,Y,Y,Y,Y,Y,Y,Y,Y] rfl rfl (one_of HT_.out (by kernel_rfl)) (by decide) (fun K hK => ?_)
                 have hs89 : w86.cell? ⟨gb265, 1, none⟩ = some (.slice Ao79 y298.length co79) := (Za BK265.out 1).trans rfl
                 have hfs89 := Zb BK265.out 1
                 have hns89_0 := NB263_265.out
                 have hns89_1 := NB264_265.out
                 have hms89_0 := NB265_263.out
                 have hms89_1 := NB265_264.out
                 refine skip_ (w1 := ?_) (by rfl) rfl ?_ ?_
                 rotate_left
                 ·go_simp
                  rfl
                 refine hK.out _ _ ?_
                 clear hK K
                 refine done_ (done_of HT_.out (by kernel_rfl)) ?_
                 try go_wp2
                 go_roundg kj11
                 case measure => have := HK1.out; have := HJ11.out; omega
                 case rel => exact ⟨(true), (wrap64 (x10_1 + 1)), (y307), (.slice Ao88 y307.length co88), sm_, sm_, H', ⟨by have := HK1.out; have := HJ11.out; omega⟩, ⟨by (with_reducible repeat (first | apply Zy | apply Zx | apply Zr)); exact Zs (Zw (p := ⟨gb265, 1, none⟩) (ZC HO309.out BK265.out (by decide)) (fun _ hk => hk.2) (.slice Ao88 y307.length co88)) (fun _ hk => trivial)⟩, ⟨by (with_reducible repeat (first | refine Zg ?_ _ | refine Zd ?_ | refine Zf ?_ _)); refine ZK ?_ NB263_265.out _; (with_reducible repeat (first | refine Zg ?_ _ | refine Zd ?_ | refine Zf ?_ _)); exact BK263.out⟩, ⟨by (with_reducible repeat (first | refine Zg ?_ _ | refine Zd ?_ | refine Zf ?_ _)); refine ZK ?_ NB264_265.out _; (with_reducible repeat (first | refine Zg ?_ _ | refine Zd ?_ | refine Zf ?_ _)); exact BK264.out⟩, ⟨by (with_reducible repeat (first | refine Zg ?_ _ | refine Zd ?_ | refine Zf ?_ _)); refine ZT (cs := #[.int .i64 a0_0, .slice Ao79 y298.length co79]) ?_ 1 _ rfl; (with_reducible repeat (first | refine Zg ?_ _ | refine Zd ?_ | refine Zf ?_ _)); exact BK265.out⟩, ⟨hB_⟩⟩
                ·rw [if_neg c69] at H
                 exact absurd H (by simp)
               ·rw [if_neg c68] at H
                exact absurd H (by simp)
              ·rw [if_neg c67] at H
               exact absurd H (by simp)
             ·rw [if_neg c66] at H
              have c66b0 : decide (a2 < (rd (rd_L1 l0_1 x10_1) 1)) = false := decide_eq_false c66
              clear c66
              obtain ⟨y310, hy310⟩ : ∃ y_ : List Int, y_ = (([] : List Int)) := ⟨_, rfl⟩
              replace H : (if y310.length + (rd_L1 l0_1 x10_1).length < 17592186044416 then (if x266001_1.length < 5864062014805 then (spec_AddAttack.l0 kj11 a1 a2 false (wrap64 (x10_1 + 1)) a0_0 l0_1 a0_0 (x266001_1 ++ [(y310 ++ (rd_L1 l0_1 x10_1))])) else (none)) else (none)) = some (r1, r2, r3) := hy_ hy310 H
              have Ny310 := Aside0.mk hy310
              clear hy310
              by_cases c90 : y310.length + (rd_L1 l0_1 x10_1).length < 17592186044416
              ·rw [if_pos c90] at H
               have LMc90 := Aside0.mk c90
               clear c90
               obtain ⟨y313, hy313⟩ : ∃ y_ : List Int, y_ = (y310 ++ (rd_L1 l0_1 x10_1)) := ⟨_, rfl⟩
               replace H : (if x266001_1.length < 5864062014805 then (spec_AddAttack.l0 kj11 a1 a2 false (wrap64 (x10_1 + 1)) a0_0 l0_1 a0_0 (x266001_1 ++ [y313])) else (none)) = some (r1, r2, r3) := hy_ hy313 H
               have Ny313 := Aside0.mk hy313
               clear hy313
               by_cases c91 : x266001_1.length < 5864062014805
               ·rw [if_pos c91] at H
                have LMc91 := Aside0.mk c91
                clear c91
                obtain ⟨y316, hy316⟩ : ∃ y_ : List (List Int), y_ = (x266001_1 ++ [y313]) := ⟨_, rfl⟩
                replace H : (spec_AddAttack.l0 kj11 a1 a2 false (wrap64 (x10_1 + 1)) a0_0 l0_1 a0_0 y316) = some (r1, r2, r3) := hy_ hy316 H
                have Ny316 := Aside0.mk hy316
                clear hy316
                have H' := Aside0.mk H
                clear H
                have hnb92 := NB263_264.out
                have hnc92 := NB264_263.out
                have hnb93 := NB263_265.out
                have hnc93 := NB265_263.out
                have hcz94_0 : wc.cell? ⟨gb263, 0, none⟩ = some (.int .i64 a0_0) := (Za BK263.out 0).trans rfl
                have hcz94_1 : wc.cell? ⟨gb263, 1, none⟩ = some (.slice A0_1 l0_1.length c0_1) := (Za BK263.out 1).trans rfl
                have hfz94_0 := Zb BK263.out 0
                have hfz94_1 := Zb BK263.out 1
                have p267 : 0 ≤ (x10_1 : Int) := of_decide_eq_true as_
                have q267 : x10_1 < (l0_1.length : Int) := of_decide_eq_true as_
                obtain ⟨ad267, A267_0, c267_0, e267, hx267_0, hl267_0, hi267_0⟩ := at_L1 HR0_1.out x10_1 p267 q267
                cases e267
                replace hx267_0 := (HB.out.cell (World.block_lt_of_cell? w _ hx267_0)).trans hx267_0
                have HR267_0 := Aside0.mk hi267_0
                have HC267_0 := Aside0.mk hl267_0
                clear hi267_0 hl267_0
                replace p267 := eq_true p267
                replace q267 := eq_true q267
                have p277 : 0 ≤ (0 : Int) := (by omega)
                have q277 : 0 < ((rd_L1 l0_1 x10_1).length : Int) := of_decide_eq_true as_
                obtain ⟨ad277, e277, hx277_0⟩ := Zv HR267_0.out 0 p277 q277
                cases e277
                have qi277 : (0 < (rd_L1 l0_1 x10_1).length) = True := eq_true (by omega)
                (try rw [show ((0 : Int)).toNat = 0 from rfl] at hx277_0)
                (try rw [Addr.add_zero'] at hx277_0)
                replace hx277_0 := (HB.out.cell (World.block_lt_of_cell? w _ hx277_0)).trans hx277_0
                replace p277 := eq_true p277
                replace q277 := eq_true q277
                have p293 : 0 ≤ (0 : Int) := (by omega)
                have q293 : 0 < ((rd_L1 l0_1 x10_1).length : Int) := of_decide_eq_true as_
                obtain ⟨ad293, e293, hx293_0⟩ := Zv HR267_0.out 0 p293 q293
                obtain rfl : ad277 = ad293 := (by injection e293)
                have qi293 : (0 < (rd_L1 l0_1 x10_1).length) = True := eq_true (by omega)
                (try rw [show ((0 : Int)).toNat = 0 from rfl] at hx293_0)
                (try rw [Addr.add_zero'] at hx293_0)
                replace hx293_0 := (HB.out.cell (World.block_lt_of_cell? w _ hx293_0)).trans hx293_0
                replace p293 := eq_true p293
                replace q293 := eq_true q293
                have p294 : 0 ≤ (1 : Int) := (by omega)
                have q294 : 1 < ((rd_L1 l0_1 x10_1).length : Int) := of_decide_eq_true as_
                obtain ⟨ad294, e294, hx294_0⟩ := Zv HR267_0.out 1 p294 q294
                obtain rfl : ad277 = ad294 := (by injection e294)
                (try simp only [show (1 : Int).toNat = 1 from rfl, Nat.reduceMul, Nat.reduceEqDiff, Go.Addr.add, ↓reduceIte] at hx294_0)
                have qi294 : (1 < (rd_L1 l0_1 x10_1).length) = True := eq_true (by omega)
                (try rw [show ((1 : Int)).toNat = 1 from rfl] at hx294_0)
                replace hx294_0 := (HB.out.cell (World.block_lt_of_cell? w _ hx294_0)).trans hx294_0
                replace p294 := eq_true p294
                replace q294 := eq_true q294
                try go_wp2
                replace HO_266001 := Aside0.mk (Zr HO_266001.out)
                replace BK263 := Aside0.mk (Zd BK263.out)
                replace BK264 := Aside0.mk (Zd BK264.out)
                replace BK265 := Aside0.mk (Zd BK265.out)
                replace HB := Aside0.mk (Zi HB.out)
                refine start_ (n := 9) (S := fun w' => w'.cell? ⟨gb265, 0, none⟩ = some (.int .i64 a0_0) ∧ w'.cell? ⟨gb265, 1, none⟩ = some (u266001)) (ds := [8]) #[O,O,O,O,O,O,O,O,O] (by kernel_rfl) rfl rfl ⟨(Za BK265.out 0).trans rfl, (Za BK265.out 1).trans rfl⟩ (fun hHeld => ?_); refine with_tabW spec_AddAttack.tab10 spec_AddAttack.bits10 (fun HT_ HW_ => ?_)
                generalize wc.drew = w95 at HO_266001 BK263 BK264 BK265 HB hHeld ⊢
                refine pu_ 0 62 #[Y,O,O,O,O,O,O,O,O] ?_
                refine pu_ 3 65 #[Y,O,O,Y,O,O,O,O,O] ?_
                refine tk2_ 1 63 #[Y,Y,O,Y,O,O,O,O,O] hHeld ?_
                refine on_ 2 64 #[Y,Y,Y,Y,O,O,O,O,O] (fun K hK => ?_)
                refine Kd.R_lit_step (Kd.int .i64) _ 3 ?hg (N := 64) ?hd (xs := ([] : List Int)) (inner := []) (ok := fun _ => True) (okp := fun _ => True) ?hr ?hp (fun _ hk => hk) trivial (Below.refl _ _) (Nat.le_refl _) (by simp) ?_; (case hd => rfl); (case hg => rfl); (case hr => first | (go_simp; done) | (go_simp; rfl)); (case hp => exact (Reps.none _ _))
                intro v311 w96 ho97 hb hg_ hnew_
                clear hg_ hnew_
                (first | rw [← Ny310.out] at ho97 | (simp only [Int.reduceToNat] at ho97; rw [← Ny310.out] at ho97))
                replace HO_266001 := Aside0.mk (Kd.S_elder' (rS_ HO_266001.out) (ZS ho97) hb)
                have HO312 := Aside0.mk (ZI ho97 (Zl hB_))
                replace BK263 := Aside0.mk (Zc (g := gb263) (o := .cells #[.int .i64 a0_0, .slice (some ad267) l0_1.length c0_1] 27 (0, 0)) (bk_ BK263.out) hb)
                replace BK264 := Aside0.mk (Zc (g := gb264) (o := .cells #[.int .i64 0, .slice none 0 0] 27 (0, 0)) (bk_ BK264.out) hb)
                replace BK265 := Aside0.mk (Zc (g := gb265) (o := .cells #[.int .i64 a0_0, u266001] 27 (0, 0)) (bk_ BK265.out) hb)
                replace HB := Aside0.mk (Ze hB_ hb)
                clear hb ho97
                refine hK.out _ _ ⟨(Za BK265.out 0).trans rfl, (Za BK265.out 1).trans rfl⟩ (fun hHeld => ?_)
                clear hK K
                refine no_ 64 ?_
                refine on_ 4 66 #[Y,Y,Y,Y,Y,O,O,O,O] (fun K hK => ?_)
                refine Kd.R_append_rows_step (Kd.int .i64) (w0 := w) w.heap.size (by rfl) (.tmp 64) (.tmp 65) 31 3 (.int .i64 0) 8 rfl Try.underlying31 info3 rfl (by decide) (by omega) v311 y310 (rd_L1 l0_1 x10_1) _ _ _ (fun _ => True) (fun _ => False) rfl rfl ?aO ?aR (fun _ _ h => h) (fun _ h => h.elim) ?aF ?aB ?aS ?aL ?_
                (case aR => exact cb_ HR267_0.out)
                (case aB => exact hB_)
                (case aF => exact (fun _ _ => trivial))
                (case aO => exact (rR_ HO312.out))
                (case aS => exact (Zl hB_))
                (case aL => have := LMc90.out; omega)
                intro v314 w98 ho hb hg hat
                rw [← Ny313.out] at ho
                have n0_ := Aside0.mk (Kd.S_after (ok := (fun _ => True)) (rS_ HO_266001.out) hg hat)
                have n1_ := Aside0.mk (ZO (g := gb263) (o := .cells #[.int .i64 a0_0, .slice (some ad267) l0_1.length c0_1] 27 (0, 0)) (bk_ BK263.out) hg (Kd.R_ne HO312.out BK263.out (by decide)))
                have n2_ := Aside0.mk (ZO (g := gb264) (o := .cells #[.int .i64 0, .slice none 0 0] 27 (0, 0)) (bk_ BK264.out) hg (Kd.R_ne HO312.out BK264.out (by decide)))
                have n3_ := Aside0.mk (ZO (g := gb265) (o := .cells #[.int .i64 a0_0, u266001] 27 (0, 0)) (bk_ BK265.out) hg (Kd.R_ne HO312.out BK265.out (by decide)))
                have n4_ := Aside0.mk (hb)
                have n5_ := Aside0.mk (ho)
                clear HO_266001
                clear BK263
                clear BK264
                clear BK265
                clear HB
                clear HO312
                have HO_266001 := n0_
                have BK263 := n1_
                have BK264 := n2_
                have BK265 := n3_
                have HB := n4_
                have HO315 := n5_
                clear n0_ n1_ n2_ n3_ n4_ n5_
                clear ho hb hg hat
                obtain ⟨Ao100, co100, eo100⟩ := ZP HO315.out
                (first | subst eo100 | (injection eo100 with f1_ f2_ f3_; have f4_ := f1_.symm; have f5_ := f3_.symm; clear f1_ f2_ f3_; subst f4_; subst f5_))
                refine hK.out _ _ ⟨(Za BK265.out 0).trans rfl, (Za BK265.out 1).trans rfl⟩ (fun hHeld => ?_)
                clear hK K
                refine no_ 66 ?_
                refine on_ 5 67 #[Y,Y,Y,Y,Y,Y,O,O,O] (fun K hK => ?_)
                refine value_ (w1 := ?_) (v := ?_) (by rfl) rfl ?_ ?_
                rotate_left 2
                ·go_simp
                 constructor
                 ·rfl
                 ·rfl
                refine hK.out _ _ ⟨(Za (Zf BK265.out _) 0).trans rfl, (Za (Zf BK265.out _) 1).trans rfl⟩ (fun hHeld => ?_)
                clear hK K
                refine no_ 67 ?_
                refine on_ 6 68 #[Y,Y,Y,Y,Y,Y,Y,O,O] (fun K hK => ?_)
                refine Kd.S_append_step (Kd.slice 3 (Kd.int .i64)) (w0 := w) w.heap.size (by rfl) (.tmp 63) (.tmp 67) 22 31 (.slice none 0 0) 24 rfl Try.underlying22 info31 rfl (by decide) (by omega) u266001 x266001_1 y313 [.slice Ao100 y313.length co100] (fun _ => True) (fun k_ => some k_ = (.slice Ao100 y313.length co100 : Value).ownBlock) rfl rfl ?aP (fun k_ hk_ => ((Zz (ok' := fun k_ => ((fun _ => True)) k_ ∧ some k_ ≠ (u266001 : Value).ownBlock) (Kd.R_apart' (HO315.out) (Kd.S_typed HO_266001.out) (by decide)) (fun k_ hk => ⟨trivial, hk.2⟩))).1 k_ hk_.symm) ?aF ?aO ?aB ?aS ?aL ?_
                (case aP => exact Kd.M_row (Zz (Kd.R_tight rfl (Zz (ok' := fun k_ => ((fun _ => True)) k_ ∧ some k_ ≠ (u266001 : Value).ownBlock) (Kd.R_apart' (HO315.out) (Kd.S_typed HO_266001.out) (by decide)) (fun k_ hk => ⟨trivial, hk.2⟩))) (fun _ h_ => h_)))
                (case aB => exact hB_)
                (case aF => exact (fun _ _ => trivial))
                (case aO => exact (by (with_reducible repeat (first | apply Zy | apply Zx | apply Zr)); exact Zs HO_266001.out (fun k_ hk => ⟨trivial, fun e_ => hk.2 e_⟩)))
                (case aS => exact (Zl hB_))
                (case aL => have := LMc91.out; omega)
                intro v317 w99 ho hb hg hat
                rw [← Ny316.out] at ho
                have n0_ := Aside0.mk (ZO (g := gb263) (o := .cells #[.int .i64 a0_0, .slice (some ad267) l0_1.length c0_1] 27 (0, 0)) (bk_ BK263.out) hg (Kd.S_ne HO_266001.out BK263.out (by decide)))
                have n1_ := Aside0.mk (ZO (g := gb264) (o := .cells #[.int .i64 0, .slice none 0 0] 27 (0, 0)) (bk_ BK264.out) hg (Kd.S_ne HO_266001.out BK264.out (by decide)))
                have n2_ := Aside0.mk (ZO (g := gb265) (o := .cells #[.int .i64 a0_0, u266001] 27 (0, 0)) (bk_ BK265.out) hg (Kd.S_ne HO_266001.out BK265.out (by decide)))
                have n3_ := Aside0.mk (hb)
                have n4_ := Aside0.mk (ho)
                clear BK263
                clear BK264
                clear BK265
                clear HB
                clear HO_266001
                clear HO315
                have BK263 := n0_
                have BK264 := n1_
                have BK265 := n2_
                have HB := n3_
                have HO318 := n4_
                clear n0_ n1_ n2_ n3_ n4_
                clear ho hb hg hat
                obtain ⟨Ao101, co101, eo101⟩ := Kd.S_slice HO318.out
                (first | subst eo101 | (injection eo101 with f1_ f2_ f3_; have f4_ := f1_.symm; have f5_ := f3_.symm; clear f1_ f2_ f3_; subst f4_; subst f5_))
                refine hK.out _ _ ⟨(Za BK265.out 0).trans rfl, (Za BK265.out 1).trans rfl⟩ (fun hHeld => ?_)
                clear hK K
                refine no_ 68 ?_
                refine pu_ 7 69 #[Y,Y,Y,Y,Y,Y,Y,Y,O] ?_
                refine last_ (i := 8) (N := none) #[Y,Y,Y,Y,Y,Y,Y,Y,Y] rfl rfl (one_of HT_.out (by kernel_rfl)) (by decide) (fun K hK => ?_)
                have hs102 : w99.cell? ⟨gb265, 1, none⟩ = some (u266001) := (Za BK265.out 1).trans rfl
                have hfs102 := Zb BK265.out 1
                have hns102_0 := NB263_265.out
                have hns102_1 := NB264_265.out
                have hms102_0 := NB265_263.out
                have hms102_1 := NB265_264.out
                refine skip_ (w1 := ?_) (by rfl) rfl ?_ ?_
                rotate_left
                ·go_simp
                 rfl
                refine hK.out _ _ ?_
                clear hK K
                refine done_ (done_of HT_.out (by kernel_rfl)) ?_
                try go_wp2
                go_roundg kj11
                case measure => have := HK1.out; have := HJ11.out; omega
                case rel => exact ⟨(false), (wrap64 (x10_1 + 1)), (y316), (.slice Ao101 y316.length co101), sm_, sm_, H', ⟨by have := HK1.out; have := HJ11.out; omega⟩, ⟨by (with_reducible repeat (first | apply Zy | apply Zx | apply Zr)); exact Zs (Zw (p := ⟨gb265, 1, none⟩) (ZC HO318.out BK265.out (by decide)) (fun _ hk => hk.2) (.slice Ao101 y316.length co101)) (fun _ hk => trivial)⟩, ⟨by (with_reducible repeat (first | refine Zg ?_ _ | refine Zd ?_ | refine Zf ?_ _)); refine ZK ?_ NB263_265.out _; (with_reducible repeat (first | refine Zg ?_ _ | refine Zd ?_ | refine Zf ?_ _)); exact BK263.out⟩, ⟨by (with_reducible repeat (first | refine Zg ?_ _ | refine Zd ?_ | refine Zf ?_ _)); refine ZK ?_ NB264_265.out _; (with_reducible repeat (first | refine Zg ?_ _ | refine Zd ?_ | refine Zf ?_ _)); exact BK264.out⟩, ⟨by (with_reducible repeat (first | refine Zg ?_ _ | refine Zd ?_ | refine Zf ?_ _)); refine ZT (cs := #[.int .i64 a0_0, u266001]) ?_ 1 _ rfl; (with_reducible repeat (first | refine Zg ?_ _ | refine Zd ?_ | refine Zf ?_ _)); exact BK265.out⟩, ⟨hB_⟩⟩
               ·rw [if_neg c91] at H
                exact absurd H (by simp)
              ·rw [if_neg c90] at H
               exact absurd H (by simp)
            ·rw [if_neg c65] at H
             exact absurd H (by simp)
           ·rw [if_neg c64] at H
            have c64b0 : ((rd (rd_L1 l0_1 x10_1) 0) == a1) = false := beq_eq_false_iff_ne.mpr c64
            have c64b1 : ((rd (rd_L1 l0_1 x10_1) 0) != a1) = true := bne_iff_ne.mpr c64
            obtain ⟨y319, hy319⟩ : ∃ y_ : List Int, y_ = (([] : List Int)) := ⟨_, rfl⟩
            replace H : (if y319.length + (rd_L1 l0_1 x10_1).length < 17592186044416 then (if x266001_1.length < 5864062014805 then (spec_AddAttack.l0 kj11 a1 a2 false (wrap64 (x10_1 + 1)) a0_0 l0_1 a0_0 (x266001_1 ++ [(y319 ++ (rd_L1 l0_1 x10_1))])) else (none)) else (none)) = some (r1, r2, r3) := hy_ hy319 H
            have Ny319 := Aside0.mk hy319
            clear hy319
            by_cases c103 : y319.length + (rd_L1 l0_1 x10_1).length < 17592186044416
            ·rw [if_pos c103] at H
             have LMc103 := Aside0.mk c103
             clear c103
             obtain ⟨y322, hy322⟩ : ∃ y_ : List Int, y_ = (y319 ++ (rd_L1 l0_1 x10_1)) := ⟨_, rfl⟩
             replace H : (if x266001_1.length < 5864062014805 then (spec_AddAttack.l0 kj11 a1 a2 false (wrap64 (x10_1 + 1)) a0_0 l0_1 a0_0 (x266001_1 ++ [y322])) else (none)) = some (r1, r2, r3) := hy_ hy322 H
             have Ny322 := Aside0.mk hy322
             clear hy322
             by_cases c104 : x266001_1.length < 5864062014805
             ·rw [if_pos c104] at H
              have LMc104 := Aside0.mk c104
              clear c104
              obtain ⟨y325, hy325⟩ : ∃ y_ : List (List Int), y_ = (x266001_1 ++ [y322]) := ⟨_, rfl⟩
              replace H : (spec_AddAttack.l0 kj11 a1 a2 false (wrap64 (x10_1 + 1)) a0_0 l0_1 a0_0 y325) = some (r1, r2, r3) := hy_ hy325 H
              have Ny325 := Aside0.mk hy325
              clear hy325
              have H' := Aside0.mk H
              clear H
              have hnb105 := NB263_264.out
              have hnc105 := NB264_263.out
              have hnb106 := NB263_265.out
              have hnc106 := NB265_263.out
              have hcz107_0 : wc.cell? ⟨gb263, 0, none⟩ = some (.int .i64 a0_0) := (Za BK263.out 0).trans rfl
              have hcz107_1 : wc.cell? ⟨gb263, 1, none⟩ = some (.slice A0_1 l0_1.length c0_1) := (Za BK263.out 1).trans rfl
              have hfz107_0 := Zb BK263.out 0
              have hfz107_1 := Zb BK263.out 1
              have p267 : 0 ≤ (x10_1 : Int) := of_decide_eq_true as_
              have q267 : x10_1 < (l0_1.length : Int) := of_decide_eq_true as_
              obtain ⟨ad267, A267_0, c267_0, e267, hx267_0, hl267_0, hi267_0⟩ := at_L1 HR0_1.out x10_1 p267 q267
              cases e267
              replace hx267_0 := (HB.out.cell (World.block_lt_of_cell? w _ hx267_0)).trans hx267_0
              have HR267_0 := Aside0.mk hi267_0
              have HC267_0 := Aside0.mk hl267_0
              clear hi267_0 hl267_0
              replace p267 := eq_true p267
              replace q267 := eq_true q267
              have p277 : 0 ≤ (0 : Int) := (by omega)
              have q277 : 0 < ((rd_L1 l0_1 x10_1).length : Int) := of_decide_eq_true as_
              obtain ⟨ad277, e277, hx277_0⟩ := Zv HR267_0.out 0 p277 q277
              cases e277
              have qi277 : (0 < (rd_L1 l0_1 x10_1).length) = True := eq_true (by omega)
              (try rw [show ((0 : Int)).toNat = 0 from rfl] at hx277_0)
              (try rw [Addr.add_zero'] at hx277_0)
              replace hx277_0 := (HB.out.cell (World.block_lt_of_cell? w _ hx277_0)).trans hx277_0
              replace p277 := eq_true p277
              replace q277 := eq_true q277
              have p293 : 0 ≤ (0 : Int) := (by omega)
              have q293 : 0 < ((rd_L1 l0_1 x10_1).length : Int) := of_decide_eq_true as_
              obtain ⟨ad293, e293, hx293_0⟩ := Zv HR267_0.out 0 p293 q293
              obtain rfl : ad277 = ad293 := (by injection e293)
              have qi293 : (0 < (rd_L1 l0_1 x10_1).length) = True := eq_true (by omega)
              (try rw [show ((0 : Int)).toNat = 0 from rfl] at hx293_0)
              (try rw [Addr.add_zero'] at hx293_0)
              replace hx293_0 := (HB.out.cell (World.block_lt_of_cell? w _ hx293_0)).trans hx293_0
              replace p293 := eq_true p293
              replace q293 := eq_true q293
              try go_wp2
              replace HO_266001 := Aside0.mk (Zr HO_266001.out)
              replace BK263 := Aside0.mk (Zd BK263.out)
              replace BK264 := Aside0.mk (Zd BK264.out)
              replace BK265 := Aside0.mk (Zd BK265.out)
              replace HB := Aside0.mk (Zi HB.out)
              refine start_ (n := 9) (S := fun w' => w'.cell? ⟨gb265, 0, none⟩ = some (.int .i64 a0_0) ∧ w'.cell? ⟨gb265, 1, none⟩ = some (u266001)) (ds := [8]) #[O,O,O,O,O,O,O,O,O] (by kernel_rfl) rfl rfl ⟨(Za BK265.out 0).trans rfl, (Za BK265.out 1).trans rfl⟩ (fun hHeld => ?_); refine with_tabW spec_AddAttack.tab10 spec_AddAttack.bits10 (fun HT_ HW_ => ?_)
              generalize wc.drew = w108 at HO_266001 BK263 BK264 BK265 HB hHeld ⊢
              refine pu_ 0 62 #[Y,O,O,O,O,O,O,O,O] ?_
              refine pu_ 3 65 #[Y,O,O,Y,O,O,O,O,O] ?_
              refine tk2_ 1 63 #[Y,Y,O,Y,O,O,O,O,O] hHeld ?_
              refine on_ 2 64 #[Y,Y,Y,Y,O,O,O,O,O] (fun K hK => ?_)
              refine Kd.R_lit_step (Kd.int .i64) _ 3 ?hg (N := 64) ?hd (xs := ([] : List Int)) (inner := []) (ok := fun _ => True) (okp := fun _ => True) ?hr ?hp (fun _ hk => hk) trivial (Below.refl _ _) (Nat.le_refl _) (by simp) ?_; (case hd => rfl); (case hg => rfl); (case hr => first | (go_simp; done) | (go_simp; rfl)); (case hp => exact (Reps.none _ _))
              intro v320 w109 ho110 hb hg_ hnew_
              clear hg_ hnew_
              (first | rw [← Ny319.out] at ho110 | (simp only [Int.reduceToNat] at ho110; rw [← Ny319.out] at ho110))
              replace HO_266001 := Aside0.mk (Kd.S_elder' (rS_ HO_266001.out) (ZS ho110) hb)
              have HO321 := Aside0.mk (ZI ho110 (Zl hB_))
              replace BK263 := Aside0.mk (Zc (g := gb263) (o := .cells #[.int .i64 a0_0, .slice (some ad267) l0_1.length c0_1] 27 (0, 0)) (bk_ BK263.out) hb)
              replace BK264 := Aside0.mk (Zc (g := gb264) (o := .cells #[.int .i64 0, .slice none 0 0] 27 (0, 0)) (bk_ BK264.out) hb)
              replace BK265 := Aside0.mk (Zc (g := gb265) (o := .cells #[.int .i64 a0_0, u266001] 27 (0, 0)) (bk_ BK265.out) hb)
              replace HB := Aside0.mk (Ze hB_ hb)
              clear hb ho110
              refine hK.out _ _ ⟨(Za BK265.out 0).trans rfl, (Za BK265.out 1).trans rfl⟩ (fun hHeld => ?_)
              clear hK K
              refine no_ 64 ?_
              refine on_ 4 66 #[Y,Y,Y,Y,Y,O,O,O,O] (fun K hK => ?_)
              refine Kd.R_append_rows_step (Kd.int .i64) (w0 := w) w.heap.size (by rfl) (.tmp 64) (.tmp 65) 31 3 (.int .i64 0) 8 rfl Try.underlying31 info3 rfl (by decide) (by omega) v320 y319 (rd_L1 l0_1 x10_1) _ _ _ (fun _ => True) (fun _ => False) rfl rfl ?aO ?aR (fun _ _ h => h) (fun _ h => h.elim) ?aF ?aB ?aS ?aL ?_
              (case aR => exact cb_ HR267_0.out)
              (case aB => exact hB_)
              (case aF => exact (fun _ _ => trivial))
              (case aO => exact (rR_ HO321.out))
              (case aS => exact (Zl hB_))
              (case aL => have := LMc103.out; omega)
              intro v323 w111 ho hb hg hat
              rw [← Ny322.out] at ho
              have n0_ := Aside0.mk (Kd.S_after (ok := (fun _ => True)) (rS_ HO_266001.out) hg hat)
              have n1_ := Aside0.mk (ZO (g := gb263) (o := .cells #[.int .i64 a0_0, .slice (some ad267) l0_1.length c0_1] 27 (0, 0)) (bk_ BK263.out) hg (Kd.R_ne HO321.out BK263.out (by decide)))
              have n2_ := Aside0.mk (ZO (g := gb264) (o := .cells #[.int .i64 0, .slice none 0 0] 27 (0, 0)) (bk_ BK264.out) hg (Kd.R_ne HO321.out BK264.out (by decide)))
              have n3_ := Aside0.mk (ZO (g := gb265) (o := .cells #[.int .i64 a0_0, u266001] 27 (0, 0)) (bk_ BK265.out) hg (Kd.R_ne HO321.out BK265.out (by decide)))
              have n4_ := Aside0.mk (hb)
              have n5_ := Aside0.mk (ho)
              clear HO_266001
              clear BK263
              clear BK264
              clear BK265
              clear HB
              clear HO321
              have HO_266001 := n0_
              have BK263 := n1_
              have BK264 := n2_
              have BK265 := n3_
              have HB := n4_
              have HO324 := n5_
              clear n0_ n1_ n2_ n3_ n4_ n5_
              clear ho hb hg hat
              obtain ⟨Ao113, co113, eo113⟩ := ZP HO324.out
              (first | subst eo113 | (injection eo113 with f1_ f2_ f3_; have f4_ := f1_.symm; have f5_ := f3_.symm; clear f1_ f2_ f3_; subst f4_; subst f5_))
              refine hK.out _ _ ⟨(Za BK265.out 0).trans rfl, (Za BK265.out 1).trans rfl⟩ (fun hHeld => ?_)
              clear hK K
              refine no_ 66 ?_
              refine on_ 5 67 #[Y,Y,Y,Y,Y,Y,O,O,O] (fun K hK => ?_)
              refine value_ (w1 := ?_) (v := ?_) (by rfl) rfl ?_ ?_
              rotate_left 2
              ·go_simp
               constructor
               ·rfl
               ·rfl
              refine hK.out _ _ ⟨(Za (Zf BK265.out _) 0).trans rfl, (Za (Zf BK265.out _) 1).trans rfl⟩ (fun hHeld => ?_)
              clear hK K
              refine no_ 67 ?_
              refine on_ 6 68 #[Y,Y,Y,Y,Y,Y,Y,O,O] (fun K hK => ?_)
              refine Kd.S_append_step (Kd.slice 3 (Kd.int .i64)) (w0 := w) w.heap.size (by rfl) (.tmp 63) (.tmp 67) 22 31 (.slice none 0 0) 24 rfl Try.underlying22 info31 rfl (by decide) (by omega) u266001 x266001_1 y322 [.slice Ao113 y322.length co113] (fun _ => True) (fun k_ => some k_ = (.slice Ao113 y322.length co113 : Value).ownBlock) rfl rfl ?aP (fun k_ hk_ => ((Zz (ok' := fun k_ => ((fun _ => True)) k_ ∧ some k_ ≠ (u266001 : Value).ownBlock) (Kd.R_apart' (HO324.out) (Kd.S_typed HO_266001.out) (by decide)) (fun k_ hk => ⟨trivial, hk.2⟩))).1 k_ hk_.symm) ?aF ?aO ?aB ?aS ?aL ?_
              (case aP => exact Kd.M_row (Zz (Kd.R_tight rfl (Zz (ok' := fun k_ => ((fun _ => True)) k_ ∧ some k_ ≠ (u266001 : Value).ownBlock) (Kd.R_apart' (HO324.out) (Kd.S_typed HO_266001.out) (by decide)) (fun k_ hk => ⟨trivial, hk.2⟩))) (fun _ h_ => h_)))
              (case aB => exact hB_)
              (case aF => exact (fun _ _ => trivial))
              (case aO => exact (by (with_reducible repeat (first | apply Zy | apply Zx | apply Zr)); exact Zs HO_266001.out (fun k_ hk => ⟨trivial, fun e_ => hk.2 e_⟩)))
              (case aS => exact (Zl hB_))
              (case aL => have := LMc104.out; omega)
              intro v326 w112 ho hb hg hat
              rw [← Ny325.out] at ho
              have n0_ := Aside0.mk (ZO (g := gb263) (o := .cells #[.int .i64 a0_0, .slice (some ad267) l0_1.length c0_1] 27 (0, 0)) (bk_ BK263.out) hg (Kd.S_ne HO_266001.out BK263.out (by decide)))
              have n1_ := Aside0.mk (ZO (g := gb264) (o := .cells #[.int .i64 0, .slice none 0 0] 27 (0, 0)) (bk_ BK264.out) hg (Kd.S_ne HO_266001.out BK264.out (by decide)))
              have n2_ := Aside0.mk (ZO (g := gb265) (o := .cells #[.int .i64 a0_0, u266001] 27 (0, 0)) (bk_ BK265.out) hg (Kd.S_ne HO_266001.out BK265.out (by decide)))
              have n3_ := Aside0.mk (hb)
              have n4_ := Aside0.mk (ho)
              clear BK263
              clear BK264
              clear BK265
              clear HB
              clear HO_266001
              clear HO324
              have BK263 := n0_
              have BK264 := n1_
              have BK265 := n2_
              have HB := n3_
              have HO327 := n4_
              clear n0_ n1_ n2_ n3_ n4_
              clear ho hb hg hat
              obtain ⟨Ao114, co114, eo114⟩ := Kd.S_slice HO327.out
              (first | subst eo114 | (injection eo114 with f1_ f2_ f3_; have f4_ := f1_.symm; have f5_ := f3_.symm; clear f1_ f2_ f3_; subst f4_; subst f5_))
              refine hK.out _ _ ⟨(Za BK265.out 0).trans rfl, (Za BK265.out 1).trans rfl⟩ (fun hHeld => ?_)
              clear hK K
              refine no_ 68 ?_
              refine pu_ 7 69 #[Y,Y,Y,Y,Y,Y,Y,Y,O] ?_
              refine last_ (i := 8) (N := none) #[Y,Y,Y,Y,Y,Y,Y,Y,Y] rfl rfl (one_of HT_.out (by kernel_rfl)) (by decide) (fun K hK => ?_)
              have hs115 : w112.cell? ⟨gb265, 1, none⟩ = some (u266001) := (Za BK265.out 1).trans rfl
              have hfs115 := Zb BK265.out 1
              have hns115_0 := NB263_265.out
              have hns115_1 := NB264_265.out
              have hms115_0 := NB265_263.out
              have hms115_1 := NB265_264.out
              refine skip_ (w1 := ?_) (by rfl) rfl ?_ ?_
              rotate_left
              ·go_simp
               rfl
              refine hK.out _ _ ?_
              clear hK K
              refine done_ (done_of HT_.out (by kernel_rfl)) ?_
              try go_wp2
              go_roundg kj11
              case measure => have := HK1.out; have := HJ11.out; omega
              case rel => exact ⟨(false), (wrap64 (x10_1 + 1)), (y325), (.slice Ao114 y325.length co114), sm_, sm_, H', ⟨by have := HK1.out; have := HJ11.out; omega⟩, ⟨by (with_reducible repeat (first | apply Zy | apply Zx | apply Zr)); exact Zs (Zw (p := ⟨gb265, 1, none⟩) (ZC HO327.out BK265.out (by decide)) (fun _ hk => hk.2) (.slice Ao114 y325.length co114)) (fun _ hk => trivial)⟩, ⟨by (with_reducible repeat (first | refine Zg ?_ _ | refine Zd ?_ | refine Zf ?_ _)); refine ZK ?_ NB263_265.out _; (with_reducible repeat (first | refine Zg ?_ _ | refine Zd ?_ | refine Zf ?_ _)); exact BK263.out⟩, ⟨by (with_reducible repeat (first | refine Zg ?_ _ | refine Zd ?_ | refine Zf ?_ _)); refine ZK ?_ NB264_265.out _; (with_reducible repeat (first | refine Zg ?_ _ | refine Zd ?_ | refine Zf ?_ _)); exact BK264.out⟩, ⟨by (with_reducible repeat (first | refine Zg ?_ _ | refine Zd ?_ | refine Zf ?_ _)); refine ZT (cs := #[.int .i64 a0_0, u266001]) ?_ 1 _ rfl; (with_reducible repeat (first | refine Zg ?_ _ | refine Zd ?_ | refine Zf ?_ _)); exact BK265.out⟩, ⟨hB_⟩⟩
             ·rw [if_neg c104] at H
              exact absurd H (by simp)
            ·rw [if_neg c103] at H
             exact absurd H (by simp)
         ·rw [if_neg c39] at H
          exact absurd H (by simp)
       ·rw [if_neg c24] at H
        exact absurd H (by simp)
      ·rw [if_neg c23] at H
       exact absurd H (by simp)
     ·replace c22 := Bool.eq_false_iff.mpr c22
      subst c22
      have H1 : (if x9_1 = true then (spec_AddAttack.j2 kj11 a0_0 l0_1 a0_0 x266001_1) else (if x266001_1.length < 5864062014805 then (spec_AddAttack.j2 kj11 a0_0 l0_1 a0_0 (x266001_1 ++ [(([a1, a2] : List Int))])) else (none))) = some (r1, r2, r3) := by rw [if_neg (show ¬ (false = true) by decide)] at H; exact H
      clear H
      have H := H1
      clear H1
      have HC116 := Aside0.mk H
      clear H
      go_upto_if 71 with (fail)
      go_cut [] (fun wc => ∃ (kq : Nat) (x266001_115 : List (List Int)) (u266001 : Value), Aside0 (spec_AddAttack.j2 kq a0_0 l0_1 a0_0 x266001_115 = some (r1, r2, r3)) ∧ Aside0 (kq ≤ kj11) ∧ Aside0 (Kd.S (Kd.slice 3 (Kd.int .i64)) 31 wc w.heap.size (fun _ => True) u266001 x266001_115) ∧ Aside0 (wc.heap[gb263]? = some (.cells #[.int .i64 a0_0, (.slice A0_1 l0_1.length c0_1)] 27 (0, 0))) ∧ Aside0 (wc.heap[gb264]? = some (.cells #[.int .i64 0, (.slice none 0 0)] 27 (0, 0))) ∧ Aside0 (wc.heap[gb265]? = some (.cells #[.int .i64 a0_0, u266001] 27 (0, 0))) ∧ Aside0 (Below w.heap.size w wc))
      case first =>
       have H := HC116.out
       clear HC116
       by_cases c117 : x9_1 = true
       ·subst c117
        have H1 : (spec_AddAttack.j2 kj11 a0_0 l0_1 a0_0 x266001_1) = some (r1, r2, r3) := by rw [if_pos rfl] at H; exact H
        clear H
        have H := H1
        clear H1
        have H' := Aside0.mk H
        clear H
        go_wp2
        go_meet
        case rel => exact ⟨_, (x266001_1), (u266001), H', ⟨by have := HK1.out; have := HJ11.out; first | omega | exact Nat.le_refl _⟩, ⟨rS_ HO_266001.out⟩, ⟨bk_ BK263.out⟩, ⟨bk_ BK264.out⟩, ⟨bk_ BK265.out⟩, ⟨hB_⟩⟩
       ·replace c117 := Bool.eq_false_iff.mpr c117
        subst c117
        have H1 : (if x266001_1.length < 5864062014805 then (spec_AddAttack.j2 kj11 a0_0 l0_1 a0_0 (x266001_1 ++ [(([a1, a2] : List Int))])) else (none)) = some (r1, r2, r3) := by rw [if_neg (show ¬ (false = true) by decide)] at H; exact H
        clear H
        have H := H1
        clear H1
        obtain ⟨y328, hy328⟩ : ∃ y_ : List Int, y_ = (([a1, a2] : List Int)) := ⟨_, rfl⟩
        replace H : (if x266001_1.length < 5864062014805 then (spec_AddAttack.j2 kj11 a0_0 l0_1 a0_0 (x266001_1 ++ [y328])) else (none)) = some (r1, r2, r3) := hy_ hy328 H
        have Ny328 := Aside0.mk hy328
        clear hy328
        by_cases c118 : x266001_1.length < 5864062014805
        ·rw [if_pos c118] at H
         have LMc118 := Aside0.mk c118
         clear c118
         obtain ⟨y331, hy331⟩ : ∃ y_ : List (List Int), y_ = (x266001_1 ++ [y328]) := ⟨_, rfl⟩
         replace H : (spec_AddAttack.j2 kj11 a0_0 l0_1 a0_0 y331) = some (r1, r2, r3) := hy_ hy331 H
         have Ny331 := Aside0.mk hy331
         clear hy331
         have H' := Aside0.mk H
         clear H
         have hnb119 := NB265_263.out
         have hnc119 := NB263_265.out
         have hnb120 := NB265_264.out
         have hnc120 := NB264_265.out
         have hcz121_0 : wc.cell? ⟨gb265, 0, none⟩ = some (.int .i64 a0_0) := (Za BK265.out 0).trans rfl
         have hcz121_1 : wc.cell? ⟨gb265, 1, none⟩ = some (u266001) := (Za BK265.out 1).trans rfl
         have hfz121_0 := Zb BK265.out 0
         have hfz121_1 := Zb BK265.out 1
         go_wp2_with (first | ((with_reducible refine ZD (N := 76) rfl ?_); refine Kd.R_lit (Kd.int .i64) _ 3 ?hg (N := 76) ?hd (xs := ([a1, a2] : List Int)) (inner := [.int .i64 a1, .int .i64 a2]) (ok := fun _ => True) (okp := fun _ => True) ?hr ?hp (fun _ hk => hk) trivial (Below.refl _ _) (Nat.le_refl _) (by simp) ?_; (case hd => rfl); (case hg => rfl); (case hr => first | (go_simp; done) | (go_simp; rfl)); (case hp => exact (Reps.one (show Kd.M (Kd.int .i64) _ _ _ a1 [.int .i64 a1] from rfl) (Reps.one (show Kd.M (Kd.int .i64) _ _ _ a2 [.int .i64 a2] from rfl) (Reps.none _ _)))); intro v329 w122 ho123 hb hg_ hnew_; clear hg_ hnew_; (first | rw [← Ny328.out] at ho123 | (simp only [Int.reduceToNat] at ho123; rw [← Ny328.out] at ho123)); replace HO_266001 := Aside0.mk (Kd.S_elder' (rS_ HO_266001.out) (ZS ho123) hb); have HO330 := Aside0.mk (ZI ho123 (Zl hB_)); replace BK263 := Aside0.mk (Zc (g := gb263) (o := .cells #[.int .i64 a0_0, .slice A0_1 l0_1.length c0_1] 27 (0, 0)) (bk_ BK263.out) hb); replace BK264 := Aside0.mk (Zc (g := gb264) (o := .cells #[.int .i64 0, .slice none 0 0] 27 (0, 0)) (bk_ BK264.out) hb); replace BK265 := Aside0.mk (Zc (g := gb265) (o := .cells #[.int .i64 a0_0, u266001] 27 (0, 0)) (bk_ BK265.out) hb); replace HB := Aside0.mk (Ze hB_ hb); clear hb ho123; obtain ⟨Ao125, co125, eo125⟩ := ZP HO330.out; subst eo125) | ((with_reducible refine gate_builtin (b := .append) (xs := #[.tmp 73, .tmp 77]) rfl ?_); at_builtin; refine Kd.S_append (Kd.slice 3 (Kd.int .i64)) (w0 := w) w.heap.size rfl (.tmp 73) (.tmp 77) 22 31 (.slice none 0 0) 24 rfl Try.underlying22 info31 rfl (by decide) (by omega) u266001 x266001_1 y328 [.slice Ao125 y328.length co125] (fun _ => True) (fun k_ => some k_ = (.slice Ao125 y328.length co125 : Value).ownBlock) rfl rfl ?aP (fun k_ hk_ => ((Zz (ok' := fun k_ => ((fun _ => True)) k_ ∧ some k_ ≠ (u266001 : Value).ownBlock) (Kd.R_apart' (HO330.out) (Kd.S_typed HO_266001.out) (by decide)) (fun k_ hk => ⟨trivial, hk.2⟩))).1 k_ hk_.symm) ?aF ?aO ?aB ?aS ?aL ?_; (case aP => exact Kd.M_row (Zz (Kd.R_tight rfl (Zz (ok' := fun k_ => ((fun _ => True)) k_ ∧ some k_ ≠ (u266001 : Value).ownBlock) (Kd.R_apart' (HO330.out) (Kd.S_typed HO_266001.out) (by decide)) (fun k_ hk => ⟨trivial, hk.2⟩))) (fun _ h_ => h_))); (case aB => exact hB_); (case aF => exact (fun _ _ => trivial)); (case aO => exact (by (with_reducible repeat (first | apply Zy | apply Zx | apply Zr)); exact Zs HO_266001.out (fun k_ hk => ⟨trivial, fun e_ => hk.2 e_⟩))); (case aS => exact (Zl hB_)); (case aL => have := LMc118.out; omega); intro v332 w124 ho hb hg hat; rw [← Ny331.out] at ho; have n0_ := Aside0.mk (ZO (g := gb263) (o := .cells #[.int .i64 a0_0, .slice A0_1 l0_1.length c0_1] 27 (0, 0)) (bk_ BK263.out) hg (Kd.S_ne HO_266001.out BK263.out (by decide))); have n1_ := Aside0.mk (ZO (g := gb264) (o := .cells #[.int .i64 0, .slice none 0 0] 27 (0, 0)) (bk_ BK264.out) hg (Kd.S_ne HO_266001.out BK264.out (by decide))); have n2_ := Aside0.mk (ZO (g := gb265) (o := .cells #[.int .i64 a0_0, u266001] 27 (0, 0)) (bk_ BK265.out) hg (Kd.S_ne HO_266001.out BK265.out (by decide))); have n3_ := Aside0.mk (hb); have n4_ := Aside0.mk (ho); clear BK263; clear BK264; clear BK265; clear HB; clear HO_266001; clear HO330; have BK263 := n0_; have BK264 := n1_; have BK265 := n2_; have HB := n3_; have HO333 := n4_; clear n0_ n1_ n2_ n3_ n4_; clear ho hb hg hat; obtain ⟨Ao126, co126, eo126⟩ := Kd.S_slice HO333.out; subst eo126; have hcz127_0 : w124.cell? ⟨gb265, 0, none⟩ = some (.int .i64 a0_0) := (Za BK265.out 0).trans rfl; have hcz127_1 : w124.cell? ⟨gb265, 1, none⟩ = some (u266001) := (Za BK265.out 1).trans rfl; have hfz127_0 := Zb BK265.out 0; have hfz127_1 := Zb BK265.out 1))
         go_meet
         case rel => exact ⟨_, (y331), (.slice Ao126 y331.length co126), H', ⟨by have := HK1.out; have := HJ11.out; first | omega | exact Nat.le_refl _⟩, ⟨by (with_reducible repeat (first | apply Zy | apply Zx | apply Zr)); exact Zs (Zw (p := ⟨gb265, 1, none⟩) (ZC HO333.out BK265.out (by decide)) (fun _ hk => hk.2) (.slice Ao126 y331.length co126)) (fun _ hk => trivial)⟩, ⟨by (with_reducible repeat (first | refine Zg ?_ _ | refine Zd ?_ | refine Zf ?_ _)); refine ZK ?_ NB263_265.out _; (with_reducible repeat (first | refine Zg ?_ _ | refine Zd ?_ | refine Zf ?_ _)); exact BK263.out⟩, ⟨by (with_reducible repeat (first | refine Zg ?_ _ | refine Zd ?_ | refine Zf ?_ _)); refine ZK ?_ NB264_265.out _; (with_reducible repeat (first | refine Zg ?_ _ | refine Zd ?_ | refine Zf ?_ _)); exact BK264.out⟩, ⟨by (with_reducible repeat (first | refine Zg ?_ _ | refine Zd ?_ | refine Zf ?_ _)); refine ZT (cs := #[.int .i64 a0_0, u266001]) ?_ 1 _ rfl; (with_reducible repeat (first | refine Zg ?_ _ | refine Zd ?_ | refine Zf ?_ _)); exact BK265.out⟩, ⟨hB_⟩⟩
        ·rw [if_neg c118] at H
         exact absurd H (by simp)
      case rest =>
       clear HC116
       try clear c1
       try clear c2
       try clear p2
       try clear q2
       try clear hx2
       try clear qi2
       try clear c3
       try clear c6
       try clear p6
       try clear c9
       try clear c10
       try clear c11
       try clear c12
       try clear c22
       try clear c23
       try clear c24
       try clear c26
       try clear p26
       try clear q26
       try clear hx26
       try clear p27
       try clear q27
       try clear hx27
       try clear qi27
       try clear p29
       try clear q29
       try clear hx29
       try clear qi29
       try clear c39
       try clear c64
       try clear c64b0
       try clear c64b1
       try clear p64
       try clear c65
       try clear c66
       try clear c66b0
       try clear c67
       try clear c68
       try clear c69
       try clear c90
       try clear c91
       try clear c92
       try clear c93
       try clear c103
       try clear c104
       try clear c105
       try clear c106
       try clear c117
       try clear c118
       try clear c119
       try clear c120
       try clear hcz107_0
       try clear hcz107_1
       try clear hcz121_0
       try clear hcz121_1
       try clear hcz127_0
       try clear hcz127_1
       try clear hcz94_0
       try clear hcz94_1
       try clear hfz107_0
       try clear hfz107_1
       try clear hfz121_0
       try clear hfz121_1
       try clear hfz127_0
       try clear hfz127_1
       try clear hfz94_0
       try clear hfz94_1
       try clear hx267_0
       try clear hx277_0
       try clear hx293_0
       try clear hx294_0
       try clear p267
       try clear p277
       try clear p293
       try clear p294
       try clear q267
       try clear q277
       try clear q293
       try clear q294
       obtain ⟨kq, x266001_115, u266001, HA, HJ115, HO_266001, BK263, BK264, BK265, HB⟩ := hcut
       cases kq with
       | zero => exact absurd HA.out (by simp [spec_AddAttack.j2])
       | succ kj115 =>
        have H := HA.out
        clear HA
        simp only [spec_AddAttack.j2] at H
        replace H := Option.bind_eq_some_iff.mp H
        obtain ⟨t334, A1280, H⟩ := H
        replace H : (if t334 = true then ((spec_IsGraph.f kj115 a0_0 x266001_115).bind fun t335 => (if t335 = true then (some (a0_0, x266001_115, true)) else ((spec_l4Copy.f kj115 a0_0 l0_1).bind fun bt336 => (some (bt336.1, bt336.2, false))))) else ((spec_l4Copy.f kj115 a0_0 l0_1).bind fun bt340 => (some (bt340.1, bt340.2, false)))) = some (r1, r2, r3) := H
        have A128 := Aside0.mk A1280
        clear A1280
        by_cases c129 : t334 = true
        ·subst c129
         have H1 : ((spec_IsGraph.f kj115 a0_0 x266001_115).bind fun t335 => (if t335 = true then (some (a0_0, x266001_115, true)) else ((spec_l4Copy.f kj115 a0_0 l0_1).bind fun bt336 => (some (bt336.1, bt336.2, false))))) = some (r1, r2, r3) := by rw [if_pos rfl] at H; exact H
         clear H
         have H := H1
         clear H1
         replace H := Option.bind_eq_some_iff.mp H
         obtain ⟨t335, A1300, H⟩ := H
         replace H : (if t335 = true then (some (a0_0, x266001_115, true)) else ((spec_l4Copy.f kj115 a0_0 l0_1).bind fun bt336 => (some (bt336.1, bt336.2, false)))) = some (r1, r2, r3) := H
         have A130 := Aside0.mk A1300
         clear A1300
         by_cases c131 : t335 = true
         ·subst c131
          have H1 : (some (a0_0, x266001_115, true)) = some (r1, r2, r3) := by rw [if_pos rfl] at H; exact H
          clear H
          have H := H1
          clear H1
          simp only [Option.some.injEq, Prod.mk.injEq] at H
          obtain ⟨rfl, rfl, rfl⟩ := H
          have hnb132 := NB263_264.out
          have hnc132 := NB264_263.out
          have hnb133 := NB263_265.out
          have hnc133 := NB265_263.out
          have hcz134_0 : wc.cell? ⟨gb263, 0, none⟩ = some (.int .i64 a0_0) := (Za BK263.out 0).trans rfl
          have hcz134_1 : wc.cell? ⟨gb263, 1, none⟩ = some (.slice A0_1 l0_1.length c0_1) := (Za BK263.out 1).trans rfl
          have hfz134_0 := Zb BK263.out 0
          have hfz134_1 := Zb BK263.out 1
          go_wp2_with (first | ((with_reducible refine Zj (f := 57) rfl ?_); refine ZE (some 81) rfl rfl Try.func57 (by kernel_rfl) rfl #[.agg #[.int .i64 a0_0, .slice A0_1 l0_1.length c0_1]] rfl ar_ ?_; (with_reducible refine (spec_IsGraph.calls kj115 a0_0 _ _ l0_1 true _ ?side1 ?side2 A128.out).mono ?_); (case side1 => exact cb_ HR0_1.out); (case side2 => exact HC0_1.out); rintro e w135 ⟨rfl, hb⟩; refine ⟨_, rfl, ?_⟩; replace HO_266001 := Aside0.mk (Zk (rS_ HO_266001.out) hb); replace BK263 := Aside0.mk (Zc (g := gb263) (o := .cells #[.int .i64 a0_0, .slice A0_1 l0_1.length c0_1] 27 (0, 0)) (bk_ BK263.out) hb); replace BK264 := Aside0.mk (Zc (g := gb264) (o := .cells #[.int .i64 0, .slice none 0 0] 27 (0, 0)) (bk_ BK264.out) hb); replace BK265 := Aside0.mk (Zc (g := gb265) (o := .cells #[.int .i64 a0_0, u266001] 27 (0, 0)) (bk_ BK265.out) hb); replace HB := Aside0.mk (Ze hB_ hb); (try clear hb); (try clear hb2); (try clear hk); (try clear hi); have hnb136 := NB265_264.out; have hnc136 := NB264_265.out; have hcz137_0 : w135.cell? ⟨gb265, 0, none⟩ = some (.int .i64 a0_0) := (Za BK265.out 0).trans rfl; have hcz137_1 : w135.cell? ⟨gb265, 1, none⟩ = some (u266001) := (Za BK265.out 1).trans rfl; have hfz137_0 := Zb BK265.out 0; have hfz137_1 := Zb BK265.out 1; obtain ⟨Ao138, co138, eo138⟩ := Kd.S_slice HO_266001.out; subst eo138) | (go_at_call 57; (with_reducible refine (spec_IsGraph.calls kj115 a0_0 _ _ x266001_115 true _ ?side1 ?side2 A130.out).mono ?_); (case side1 => repeat (first | exact (Zu HO_266001.out).2.2 | (with_reducible refine ZB ?_ _) | (with_reducible refine ZA ?_ _) | (with_reducible refine ZG ?_))); (case side2 => exact (Zu HO_266001.out).2.1); rintro e w139 ⟨rfl, hb⟩; replace HO_266001 := Aside0.mk (Zk (rS_ HO_266001.out) hb); replace BK263 := Aside0.mk (Zc (g := gb263) (o := .cells #[.int .i64 a0_0, .slice A0_1 l0_1.length c0_1] 27 (0, 0)) (bk_ BK263.out) hb); replace BK264 := Aside0.mk (Zc (g := gb264) (o := .cells #[.int .i64 0, .slice none 0 0] 27 (0, 0)) (bk_ BK264.out) hb); replace BK265 := Aside0.mk (Zc (g := gb265) (o := .cells #[.int .i64 a0_0, .slice Ao138 x266001_115.length co138] 27 (0, 0)) (bk_ BK265.out) hb); replace HB := Aside0.mk (Ze hB_ hb); (try clear hb); (try clear hb2); (try clear hk); (try clear hi); have hcz140_0 : w139.cell? ⟨gb265, 0, none⟩ = some (.int .i64 a0_0) := (Za BK265.out 0).trans rfl; have hcz140_1 : w139.cell? ⟨gb265, 1, none⟩ = some (.slice Ao138 x266001_115.length co138) := (Za BK265.out 1).trans rfl; have hfz140_0 := Zb BK265.out 0; have hfz140_1 := Zb BK265.out 1; have hcz141_0 : w139.cell? ⟨gb264, 0, none⟩ = some (.int .i64 0) := (Za BK264.out 0).trans rfl; have hcz141_1 : w139.cell? ⟨gb264, 1, none⟩ = some (.slice none 0 0) := (Za BK264.out 1).trans rfl; have hfz141_0 := Zb BK264.out 0; have hfz141_1 := Zb BK264.out 1))
          refine bodyPost_ret (results_ct rfl _ _ gb264 27 #[.int .i64 a0_0, .slice Ao138 x266001_115.length co138] (0, 0) _ rfl (by (with_reducible repeat (first | refine Zg ?_ _ | refine Zd ?_ | refine Zf ?_ _)); refine ZT (cs := #[.int .i64 a0_0, .slice none 0 0]) ?_ 1 _ rfl; (with_reducible repeat (first | refine Zg ?_ _ | refine Zd ?_ | refine Zf ?_ _)); refine ZT (cs := #[.int .i64 0, .slice none 0 0]) ?_ 0 _ rfl; (with_reducible repeat (first | refine Zg ?_ _ | refine Zd ?_ | refine Zf ?_ _)); exact BK264.out) Try.underlying27 rfl (by kernel_rfl)) rfl ?_
          exact ⟨_, er_, by (with_reducible repeat (first | apply Zy | apply Zx | apply Zr)); exact Zs (Zw (p := ⟨gb264, 1, none⟩) (Zw (p := ⟨gb264, 0, none⟩) (ZC HO_266001.out BK264.out (by decide)) (fun _ hk => hk.2) (.int .i64 a0_0)) (fun _ hk => hk.2) (.slice Ao138 x266001_115.length co138)) (fun _ hk => trivial), hB_⟩
         ·replace c131 := Bool.eq_false_iff.mpr c131
          subst c131
          have H1 : ((spec_l4Copy.f kj115 a0_0 l0_1).bind fun bt336 => (some (bt336.1, bt336.2, false))) = some (r1, r2, r3) := by rw [if_neg (show ¬ (false = true) by decide)] at H; exact H
          clear H
          have H := H1
          clear H1
          replace H := Option.bind_eq_some_iff.mp H
          obtain ⟨⟨t336, t337⟩, A1420, H⟩ := H
          replace H : (some (t336, t337, false)) = some (r1, r2, r3) := H
          have A142 := Aside0.mk A1420
          clear A1420
          simp only [Option.some.injEq, Prod.mk.injEq] at H
          obtain ⟨rfl, rfl, rfl⟩ := H
          have hnb143 := NB263_264.out
          have hnc143 := NB264_263.out
          have hnb144 := NB263_265.out
          have hnc144 := NB265_263.out
          have hcz145_0 : wc.cell? ⟨gb263, 0, none⟩ = some (.int .i64 a0_0) := (Za BK263.out 0).trans rfl
          have hcz145_1 : wc.cell? ⟨gb263, 1, none⟩ = some (.slice A0_1 l0_1.length c0_1) := (Za BK263.out 1).trans rfl
          have hfz145_0 := Zb BK263.out 0
          have hfz145_1 := Zb BK263.out 1
          go_wp2_with (first | ((with_reducible refine Zj (f := 57) rfl ?_); refine ZE (some 81) rfl rfl Try.func57 (by kernel_rfl) rfl #[.agg #[.int .i64 a0_0, .slice A0_1 l0_1.length c0_1]] rfl ar_ ?_; (with_reducible refine (spec_IsGraph.calls kj115 a0_0 _ _ l0_1 true _ ?side1 ?side2 A128.out).mono ?_); (case side1 => exact cb_ HR0_1.out); (case side2 => exact HC0_1.out); rintro e w146 ⟨rfl, hb⟩; refine ⟨_, rfl, ?_⟩; replace HO_266001 := Aside0.mk (Zk (rS_ HO_266001.out) hb); replace BK263 := Aside0.mk (Zc (g := gb263) (o := .cells #[.int .i64 a0_0, .slice A0_1 l0_1.length c0_1] 27 (0, 0)) (bk_ BK263.out) hb); replace BK264 := Aside0.mk (Zc (g := gb264) (o := .cells #[.int .i64 0, .slice none 0 0] 27 (0, 0)) (bk_ BK264.out) hb); replace BK265 := Aside0.mk (Zc (g := gb265) (o := .cells #[.int .i64 a0_0, u266001] 27 (0, 0)) (bk_ BK265.out) hb); replace HB := Aside0.mk (Ze hB_ hb); (try clear hb); (try clear hb2); (try clear hk); (try clear hi); have hnb147 := NB265_264.out; have hnc147 := NB264_265.out; have hcz148_0 : w146.cell? ⟨gb265, 0, none⟩ = some (.int .i64 a0_0) := (Za BK265.out 0).trans rfl; have hcz148_1 : w146.cell? ⟨gb265, 1, none⟩ = some (u266001) := (Za BK265.out 1).trans rfl; have hfz148_0 := Zb BK265.out 0; have hfz148_1 := Zb BK265.out 1; obtain ⟨Ao149, co149, eo149⟩ := Kd.S_slice HO_266001.out; subst eo149) | (go_at_call 57; (with_reducible refine (spec_IsGraph.calls kj115 a0_0 _ _ x266001_115 false _ ?side1 ?side2 A130.out).mono ?_); (case side1 => repeat (first | exact (Zu HO_266001.out).2.2 | (with_reducible refine ZB ?_ _) | (with_reducible refine ZA ?_ _) | (with_reducible refine ZG ?_))); (case side2 => exact (Zu HO_266001.out).2.1); rintro e w150 ⟨rfl, hb⟩; replace HO_266001 := Aside0.mk (Zk (rS_ HO_266001.out) hb); replace BK263 := Aside0.mk (Zc (g := gb263) (o := .cells #[.int .i64 a0_0, .slice A0_1 l0_1.length c0_1] 27 (0, 0)) (bk_ BK263.out) hb); replace BK264 := Aside0.mk (Zc (g := gb264) (o := .cells #[.int .i64 0, .slice none 0 0] 27 (0, 0)) (bk_ BK264.out) hb); replace BK265 := Aside0.mk (Zc (g := gb265) (o := .cells #[.int .i64 a0_0, .slice Ao149 x266001_115.length co149] 27 (0, 0)) (bk_ BK265.out) hb); replace HB := Aside0.mk (Ze hB_ hb); (try clear hb); (try clear hb2); (try clear hk); (try clear hi); have hcz151_0 : w150.cell? ⟨gb263, 0, none⟩ = some (.int .i64 a0_0) := (Za BK263.out 0).trans rfl; have hcz151_1 : w150.cell? ⟨gb263, 1, none⟩ = some (.slice A0_1 l0_1.length c0_1) := (Za BK263.out 1).trans rfl; have hfz151_0 := Zb BK263.out 0; have hfz151_1 := Zb BK263.out 1) | ((with_reducible refine Zj (f := 92) rfl ?_); refine ZE (some 89) rfl rfl Try.func92 (by kernel_rfl) rfl #[.agg #[.int .i64 a0_0, .slice A0_1 l0_1.length c0_1]] rfl ar_ ?_; (with_reducible refine (spec_l4Copy.calls kj115 a0_0 _ _ l0_1 t336 t337 _ ?side1 ?side2 A142.out).mono ?_); (case side1 => exact cb_ HR0_1.out); (case side2 => exact HC0_1.out); rintro e w152 ⟨v338, rfl, ho0, hb⟩; refine ⟨_, rfl, ?_⟩; have HO339 := Aside0.mk (Kd.S_lower (Kd.S_new' ho0 (Kd.S_lt (rS_ HO_266001.out))) (Zl hB_)); replace HO_266001 := Aside0.mk (Kd.S_elder' (rS_ HO_266001.out) (Kd.S_base ho0) hb); replace BK263 := Aside0.mk (Zc (g := gb263) (o := .cells #[.int .i64 a0_0, .slice A0_1 l0_1.length c0_1] 27 (0, 0)) (bk_ BK263.out) hb); replace BK264 := Aside0.mk (Zc (g := gb264) (o := .cells #[.int .i64 0, .slice none 0 0] 27 (0, 0)) (bk_ BK264.out) hb); replace BK265 := Aside0.mk (Zc (g := gb265) (o := .cells #[.int .i64 a0_0, .slice Ao149 x266001_115.length co149] 27 (0, 0)) (bk_ BK265.out) hb); replace HB := Aside0.mk (Ze hB_ hb); (try clear hb); (try clear hb2); (try clear hk); (try clear hi); (try clear ho0); have hcz153_0 : w152.cell? ⟨gb264, 0, none⟩ = some (.int .i64 0) := (Za BK264.out 0).trans rfl; have hcz153_1 : w152.cell? ⟨gb264, 1, none⟩ = some (.slice none 0 0) := (Za BK264.out 1).trans rfl; have hfz153_0 := Zb BK264.out 0; have hfz153_1 := Zb BK264.out 1; obtain ⟨Ao154, co154, eo154⟩ := Kd.S_slice HO339.out; subst eo154))
          refine bodyPost_ret (results_ct rfl _ _ gb264 27 #[.int .i64 t336, .slice Ao154 t337.length co154] (0, 0) _ rfl (by (with_reducible repeat (first | refine Zg ?_ _ | refine Zd ?_ | refine Zf ?_ _)); refine ZT (cs := #[.int .i64 t336, .slice none 0 0]) ?_ 1 _ rfl; (with_reducible repeat (first | refine Zg ?_ _ | refine Zd ?_ | refine Zf ?_ _)); refine ZT (cs := #[.int .i64 0, .slice none 0 0]) ?_ 0 _ rfl; (with_reducible repeat (first | refine Zg ?_ _ | refine Zd ?_ | refine Zf ?_ _)); exact BK264.out) Try.underlying27 rfl (by kernel_rfl)) rfl ?_
          exact ⟨_, er_, by (with_reducible repeat (first | apply Zy | apply Zx | apply Zr)); exact Zs (Zw (p := ⟨gb264, 1, none⟩) (Zw (p := ⟨gb264, 0, none⟩) (ZC HO339.out BK264.out (by decide)) (fun _ hk => hk.2) (.int .i64 t336)) (fun _ hk => hk.2) (.slice Ao154 t337.length co154)) (fun _ hk => trivial), hB_⟩
        ·replace c129 := Bool.eq_false_iff.mpr c129
         subst c129
         have H1 : ((spec_l4Copy.f kj115 a0_0 l0_1).bind fun bt340 => (some (bt340.1, bt340.2, false))) = some (r1, r2, r3) := by rw [if_neg (show ¬ (false = true) by decide)] at H; exact H
         clear H
         have H := H1
         clear H1
         replace H := Option.bind_eq_some_iff.mp H
         obtain ⟨⟨t340, t341⟩, A1550, H⟩ := H
         replace H : (some (t340, t341, false)) = some (r1, r2, r3) := H
         have A155 := Aside0.mk A1550
         clear A1550
         simp only [Option.some.injEq, Prod.mk.injEq] at H
         obtain ⟨rfl, rfl, rfl⟩ := H
         have hnb156 := NB263_264.out
         have hnc156 := NB264_263.out
         have hnb157 := NB263_265.out
         have hnc157 := NB265_263.out
         have hcz158_0 : wc.cell? ⟨gb263, 0, none⟩ = some (.int .i64 a0_0) := (Za BK263.out 0).trans rfl
         have hcz158_1 : wc.cell? ⟨gb263, 1, none⟩ = some (.slice A0_1 l0_1.length c0_1) := (Za BK263.out 1).trans rfl
         have hfz158_0 := Zb BK263.out 0
         have hfz158_1 := Zb BK263.out 1
         go_wp2_with (first | ((with_reducible refine Zj (f := 57) rfl ?_); refine ZE (some 81) rfl rfl Try.func57 (by kernel_rfl) rfl #[.agg #[.int .i64 a0_0, .slice A0_1 l0_1.length c0_1]] rfl ar_ ?_; (with_reducible refine (spec_IsGraph.calls kj115 a0_0 _ _ l0_1 false _ ?side1 ?side2 A128.out).mono ?_); (case side1 => exact cb_ HR0_1.out); (case side2 => exact HC0_1.out); rintro e w159 ⟨rfl, hb⟩; refine ⟨_, rfl, ?_⟩; replace HO_266001 := Aside0.mk (Zk (rS_ HO_266001.out) hb); replace BK263 := Aside0.mk (Zc (g := gb263) (o := .cells #[.int .i64 a0_0, .slice A0_1 l0_1.length c0_1] 27 (0, 0)) (bk_ BK263.out) hb); replace BK264 := Aside0.mk (Zc (g := gb264) (o := .cells #[.int .i64 0, .slice none 0 0] 27 (0, 0)) (bk_ BK264.out) hb); replace BK265 := Aside0.mk (Zc (g := gb265) (o := .cells #[.int .i64 a0_0, u266001] 27 (0, 0)) (bk_ BK265.out) hb); replace HB := Aside0.mk (Ze hB_ hb); (try clear hb); (try clear hb2); (try clear hk); (try clear hi); have hcz160_0 : w159.cell? ⟨gb263, 0, none⟩ = some (.int .i64 a0_0) := (Za BK263.out 0).trans rfl; have hcz160_1 : w159.cell? ⟨gb263, 1, none⟩ = some (.slice A0_1 l0_1.length c0_1) := (Za BK263.out 1).trans rfl; have hfz160_0 := Zb BK263.out 0; have hfz160_1 := Zb BK263.out 1) | ((with_reducible refine Zj (f := 92) rfl ?_); refine ZE (some 89) rfl rfl Try.func92 (by kernel_rfl) rfl #[.agg #[.int .i64 a0_0, .slice A0_1 l0_1.length c0_1]] rfl ar_ ?_; (with_reducible refine (spec_l4Copy.calls kj115 a0_0 _ _ l0_1 t340 t341 _ ?side1 ?side2 A155.out).mono ?_); (case side1 => exact cb_ HR0_1.out); (case side2 => exact HC0_1.out); rintro e w161 ⟨v342, rfl, ho0, hb⟩; refine ⟨_, rfl, ?_⟩; have HO343 := Aside0.mk (Kd.S_lower (Kd.S_new' ho0 (Kd.S_lt (rS_ HO_266001.out))) (Zl hB_)); replace HO_266001 := Aside0.mk (Kd.S_elder' (rS_ HO_266001.out) (Kd.S_base ho0) hb); replace BK263 := Aside0.mk (Zc (g := gb263) (o := .cells #[.int .i64 a0_0, .slice A0_1 l0_1.length c0_1] 27 (0, 0)) (bk_ BK263.out) hb); replace BK264 := Aside0.mk (Zc (g := gb264) (o := .cells #[.int .i64 0, .slice none 0 0] 27 (0, 0)) (bk_ BK264.out) hb); replace BK265 := Aside0.mk (Zc (g := gb265) (o := .cells #[.int .i64 a0_0, u266001] 27 (0, 0)) (bk_ BK265.out) hb); replace HB := Aside0.mk (Ze hB_ hb); (try clear hb); (try clear hb2); (try clear hk); (try clear hi); (try clear ho0); have hnb162 := NB264_265.out; have hnc162 := NB265_264.out; have hcz163_0 : w161.cell? ⟨gb264, 0, none⟩ = some (.int .i64 0) := (Za BK264.out 0).trans rfl; have hcz163_1 : w161.cell? ⟨gb264, 1, none⟩ = some (.slice none 0 0) := (Za BK264.out 1).trans rfl; have hfz163_0 := Zb BK264.out 0; have hfz163_1 := Zb BK264.out 1; obtain ⟨Ao164, co164, eo164⟩ := Kd.S_slice HO343.out; subst eo164))
         refine bodyPost_ret (results_ct rfl _ _ gb264 27 #[.int .i64 t340, .slice Ao164 t341.length co164] (0, 0) _ rfl (by (with_reducible repeat (first | refine Zg ?_ _ | refine Zd ?_ | refine Zf ?_ _)); refine ZT (cs := #[.int .i64 t340, .slice none 0 0]) ?_ 1 _ rfl; (with_reducible repeat (first | refine Zg ?_ _ | refine Zd ?_ | refine Zf ?_ _)); refine ZT (cs := #[.int .i64 0, .slice none 0 0]) ?_ 0 _ rfl; (with_reducible repeat (first | refine Zg ?_ _ | refine Zd ?_ | refine Zf ?_ _)); exact BK264.out) Try.underlying27 rfl (by kernel_rfl)) rfl ?_
         exact ⟨_, er_, by (with_reducible repeat (first | apply Zy | apply Zx | apply Zr)); exact Zs (Zw (p := ⟨gb264, 1, none⟩) (Zw (p := ⟨gb264, 0, none⟩) (ZC HO343.out BK264.out (by decide)) (fun _ hk => hk.2) (.int .i64 t340)) (fun _ hk => hk.2) (.slice Ao164 t341.length co164)) (fun _ hk => trivial), hB_⟩

end Go.Proofs.Ytdlobolnajcfnaa.PFnGames
