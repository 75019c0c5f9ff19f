-- Written by a program of this session (hooks of mine on the print): Lean checks it.
import Derived.Test.YtdlobolnajcfnaaPFnGamesx0
namespace Go.Proofs.Ytdlobolnajcfnaa.PFnGames
open Go.RowKit Go.Proofs.YtdlobolnajcfnaaW.PrintWords Go.Proofs.YtdlobolnajcfnaaW.PrintLast Go.Proofs.YtdlobolnajcfnaaW.PrintMore
attribute [local go_sem] max2_int min2_int max_two min_two max_three min_three max_four min_four   -- for this text's walks alone
set_option linter.unusedVariables false
set_option linter.unusedSimpArgs false

/-! ### spec_l4Copy: function 92 -/
def spec_l4Copy.l0 : Nat → Int → Int → List (List Int) → Int → List (List Int) → Option (Int × (List (List Int)))
 | 0, _, _, _, _, _ => none
 | k + 1, x4, x251000, x251001, x253000, x253001 => if x4 < (x251001.length : Int) then ((some (([] : List Int) : List Int)).bind fun y253 => (if 0 ≤ x4 then (if y253.length + (rd_L1 x251001 x4).length < 17592186044416 then (if x253001.length < 5864062014805 then (spec_l4Copy.l0 k (wrap64 (x4 + 1)) x251000 x251001 x253000 (x253001 ++ [(y253 ++ (rd_L1 x251001 x4))])) else (none)) else (none)) else (none))) else (some (x253000, x253001))
def spec_l4Copy.f (k : Nat) (a0_0 : Int) (l0_1 : List (List Int)) : Option (Int × (List (List Int))) := spec_l4Copy.l0 k 0 a0_0 l0_1 a0_0 ([] : List (List Int))
theorem spec_l4Copy.mono_l : ∀ k, (∀ y0 y1 y2 y3 y4, LeO (spec_l4Copy.l0 k y0 y1 y2 y3 y4) (spec_l4Copy.l0 (k + 1) y0 y1 y2 y3 y4))
 | 0 => fun _ _ _ _ _ r h => by simp [spec_l4Copy.l0] at h
 | k + 1 => by
  have ih0 := spec_l4Copy.mono_l k
  ·intro y0 y1 y2 y3 y4
   unfold spec_l4Copy.l0
   repeat' first
   | (with_reducible exact ih0 _ _ _ _ _)
   | (with_reducible exact ZJ _)
   | (with_reducible exact Zn _)
   | (with_reducible refine Zt ?_ ?_)
   | (with_reducible refine Zo ?_ (fun _ => ?_))
   | exact ih0 _ _ _ _ _
   | exact Zn _
   | refine Zt ?_ ?_
   | refine Zo ?_ (fun _ => ?_)
theorem spec_l4Copy.mono : ∀ a0 a1 k, LeO (spec_l4Copy.f k a0 a1) (spec_l4Copy.f (k + 1) a0 a1) := by
 intro a0 a1 k
 have ih0 := spec_l4Copy.mono_l k
 unfold spec_l4Copy.f
 repeat' first
   | (with_reducible exact ih0 _ _ _ _ _)
   | (with_reducible exact ZJ _)
   | (with_reducible exact Zn _)
   | (with_reducible refine Zt ?_ ?_)
   | (with_reducible refine Zo ?_ (fun _ => ?_))
   | exact ih0 _ _ _ _ _
   | exact Zn _
   | refine Zt ?_ ?_
   | refine Zo ?_ (fun _ => ?_)
def spec_l4Copy.T5 : Bool × List (List Nat × List Nat) := (true, [([], []), ([0], [0]), ([], []), ([], []), ([3], [3]), ([], []), ([4, 5], [4, 5]), ([6], [6]), ([2, 7], [2, 7]), ([8], [8]), ([1, 9, 8], [1, 9]), ([0, 1, 2, 3, 4, 5, 6, 7, 8, 9, 10], []), ([11, 10, 10, 0, 1, 2, 3, 4, 5, 6, 7, 8, 9, 10], [10, 11])])
def spec_l4Copy.B5 : List Nat := [0, 1, 0, 0, 8, 0, 56, 120, 252, 508, 1023, 2047, 4095]
theorem spec_l4Copy.tab5 : rtab .any (opsOf Try.f92 5) = spec_l4Copy.T5 := by kernel_rfl
theorem spec_l4Copy.bits5 : waitsOk spec_l4Copy.T5.2 spec_l4Copy.B5 = true := by kernel_rfl
set_option maxHeartbeats 8000000 in
set_option maxRecDepth 100000 in
theorem spec_l4Copy.calls (k : Nat) (a0_0 : Int) (A0_1 : Option Addr) (c0_1 : Nat) (l0_1 : List (List Int)) (r1 : Int) (r2 : List (List Int)) (w : World) (hr0_1 : Kd.C (Kd.slice 3 (Kd.int .i64)) w A0_1 l0_1.length l0_1) (hc0_1 : l0_1.length ≤ c0_1) (h : spec_l4Copy.f k a0_0 l0_1 = some (r1, r2)) :
  Calls Try.prog 92 #[.agg #[.int .i64 a0_0, .slice A0_1 l0_1.length c0_1]] w fun e w' => ∃ v1_ : Value, e = .returned (.agg #[.int .i64 r1, v1_]) ∧ Kd.S (Kd.slice 3 (Kd.int .i64)) 31 w' w.heap.size (fun _ => True) v1_ r2 ∧ Below w.heap.size w w' := by
 have hu27 := Try.underlying27
 have HR0_1 := Aside0.mk hr0_1
 have HC0_1 := Aside0.mk hc0_1
 clear hr0_1 hc0_1
 have HB := Aside0.mk (Below.refl w.heap.size w)
 have H : (spec_l4Copy.l0 k 0 a0_0 l0_1 a0_0 ([] : List (List Int))) = some (r1, r2) := h
 clear h
 have H' := Aside0.mk H
 clear H
 go_enter Try.func92, Try.ntmps92
 go_wp2_with (first | ((with_reducible refine ZD (N := 1) rfl ?_); refine ZH ?hg (N := 1) ?hd (cs := #[.int .i64 a0_0, .slice A0_1 l0_1.length c0_1]) (t := 27) ?hr ?_; (case hd => rfl); (case hg => rfl); (case hr => first | (go_simp; done) | (go_simp; rfl)); intro gb250 hg w2 hbox hb; have BK250 := Aside0.mk (hbox); have GW250 := Aside0.mk ((hz_ hg : w.heap.size ≤ gb250)); have GE250 := Aside0.mk ((hz_ hg : w.heap.size ≤ gb250)); replace HB := Aside0.mk (Ze hB_ hb); clear hb hbox hg) | ((with_reducible refine ZD (N := 2) rfl ?_); refine ZH ?hg (N := 2) ?hd (cs := #[.int .i64 0, .slice none 0 0]) (t := 27) ?hr ?_; (case hd => rfl); (case hg => rfl); (case hr => first | (go_simp; done) | (go_simp; rfl)); intro gb251 hg w3 hbox hb; have BK251 := Aside0.mk (hbox); have GW251 := Aside0.mk ((hz_ hg : w.heap.size ≤ gb251)); have GE251 := Aside0.mk ((hz_ hg : w.heap.size ≤ gb251)); replace HB := Aside0.mk (Ze hB_ hb); have NB250_251 := Aside0.mk ((by rw [hg]; exact Nat.ne_of_lt (blk_lt (g := gb250) (o := .cells #[.int .i64 a0_0, .slice A0_1 l0_1.length c0_1] 27 (0, 0)) (bk_ BK250.out)) : gb250 ≠ gb251)); have NB251_250 := Aside0.mk ((by rw [hg]; exact Nat.ne_of_gt (blk_lt (g := gb250) (o := .cells #[.int .i64 a0_0, .slice A0_1 l0_1.length c0_1] 27 (0, 0)) (bk_ BK250.out)) : gb251 ≠ gb250)); replace BK250 := Aside0.mk (Zc (g := gb250) (o := .cells #[.int .i64 a0_0, .slice A0_1 l0_1.length c0_1] 27 (0, 0)) (bk_ BK250.out) hb); clear hb hbox hg; have hnb4 := NB250_251.out; have hnc4 := NB251_250.out; have hcz5_0 : w3.cell? ⟨gb250, 0, none⟩ = some (.int .i64 a0_0) := (Za BK250.out 0).trans rfl; have hcz5_1 : w3.cell? ⟨gb250, 1, none⟩ = some (.slice A0_1 l0_1.length c0_1) := (Za BK250.out 1).trans rfl; have hfz5_0 := Zb BK250.out 0; have hfz5_1 := Zb BK250.out 1) | ((with_reducible refine ZD (N := 3) rfl ?_); refine ZH ?hg (N := 3) ?hd (cs := #[.int .i64 0, .slice none 0 0]) (t := 27) ?hr ?_; (case hd => rfl); (case hg => rfl); (case hr => first | (go_simp; done) | (go_simp; rfl)); intro gb252 hg w6 hbox hb; have BK252 := Aside0.mk (hbox); have GW252 := Aside0.mk ((hz_ hg : w.heap.size ≤ gb252)); have GE252 := Aside0.mk ((hz_ hg : w.heap.size ≤ gb252)); replace HB := Aside0.mk (Ze hB_ hb); have NB250_252 := Aside0.mk ((by rw [hg]; exact Nat.ne_of_lt (blk_lt (g := gb250) (o := .cells #[.int .i64 a0_0, .slice A0_1 l0_1.length c0_1] 27 (0, 0)) (bk_ BK250.out)) : gb250 ≠ gb252)); have NB252_250 := Aside0.mk ((by rw [hg]; exact Nat.ne_of_gt (blk_lt (g := gb250) (o := .cells #[.int .i64 a0_0, .slice A0_1 l0_1.length c0_1] 27 (0, 0)) (bk_ BK250.out)) : gb252 ≠ gb250)); replace BK250 := Aside0.mk (Zc (g := gb250) (o := .cells #[.int .i64 a0_0, .slice A0_1 l0_1.length c0_1] 27 (0, 0)) (bk_ BK250.out) hb); have NB251_252 := Aside0.mk ((by rw [hg]; exact Nat.ne_of_lt (blk_lt (g := gb251) (o := .cells #[.int .i64 0, .slice none 0 0] 27 (0, 0)) (bk_ BK251.out)) : gb251 ≠ gb252)); have NB252_251 := Aside0.mk ((by rw [hg]; exact Nat.ne_of_gt (blk_lt (g := gb251) (o := .cells #[.int .i64 0, .slice none 0 0] 27 (0, 0)) (bk_ BK251.out)) : gb252 ≠ gb251)); replace BK251 := Aside0.mk (Zc (g := gb251) (o := .cells #[.int .i64 0, .slice none 0 0] 27 (0, 0)) (bk_ BK251.out) hb); clear hb hbox hg; have hnb7 := NB252_250.out; have hnc7 := NB250_252.out; have hnb8 := NB252_251.out; have hnc8 := NB251_252.out; have hcz9_0 : w6.cell? ⟨gb252, 0, none⟩ = some (.int .i64 0) := (Za BK252.out 0).trans rfl; have hcz9_1 : w6.cell? ⟨gb252, 1, none⟩ = some (.slice none 0 0) := (Za BK252.out 1).trans rfl; have hfz9_0 := Zb BK252.out 0; have hfz9_1 := Zb BK252.out 1))
 go_loopg [4] k (fun kq v4 w' => ∃ (x4_1 : Int) (x253001_1 : List (List Int)) (u253001 : Value), v4 = .int .i64 x4_1 ∧ Aside0 (spec_l4Copy.l0 kq x4_1 a0_0 l0_1 a0_0 x253001_1 = some (r1, r2)) ∧ Aside0 (kq ≤ k) ∧ Aside0 (Kd.S (Kd.slice 3 (Kd.int .i64)) 31 w' w.heap.size (fun _ => True) u253001 x253001_1) ∧ Aside0 (w'.heap[gb250]? = some (.cells #[.int .i64 a0_0, (.slice A0_1 l0_1.length c0_1)] 27 (0, 0))) ∧ Aside0 (w'.heap[gb251]? = some (.cells #[.int .i64 0, (.slice none 0 0)] 27 (0, 0))) ∧ Aside0 (w'.heap[gb252]? = some (.cells #[.int .i64 a0_0, u253001] 27 (0, 0))) ∧ Aside0 (Below w.heap.size w w'))
 case atStart => exact ⟨(0), (([] : List (List Int))), (.slice none 0 0), sm_, H', ⟨Nat.le_refl _⟩, ⟨by first | exact Kd.S_nil _ _ _ _ _ | exact Kd.N_nil _ _ _ _ _ | exact Kd.V_nil _ _ _ _ _ | exact Kd.Q_nil _ _ _ _ _ | exact Kd.R_nil _ _ _ _ _⟩, ⟨by (with_reducible repeat (first | refine Zg ?_ _ | refine Zd ?_ | refine Zf ?_ _)); refine ZK ?_ NB250_252.out _; (with_reducible repeat (first | refine Zg ?_ _ | refine Zd ?_ | refine Zf ?_ _)); refine ZK ?_ NB250_252.out _; (with_reducible repeat (first | refine Zg ?_ _ | refine Zd ?_ | refine Zf ?_ _)); exact BK250.out⟩, ⟨by (with_reducible repeat (first | refine Zg ?_ _ | refine Zd ?_ | refine Zf ?_ _)); refine ZK ?_ NB251_252.out _; (with_reducible repeat (first | refine Zg ?_ _ | refine Zd ?_ | refine Zf ?_ _)); refine ZK ?_ NB251_252.out _; (with_reducible repeat (first | refine Zg ?_ _ | refine Zd ?_ | refine Zf ?_ _)); exact BK251.out⟩, ⟨by (with_reducible repeat (first | refine Zg ?_ _ | refine Zd ?_ | refine Zf ?_ _)); refine ZT (cs := #[.int .i64 a0_0, .slice none 0 0]) ?_ 1 _ rfl; (with_reducible repeat (first | refine Zg ?_ _ | refine Zd ?_ | refine Zf ?_ _)); refine ZT (cs := #[.int .i64 0, .slice none 0 0]) ?_ 0 _ rfl; (with_reducible repeat (first | refine Zg ?_ _ | refine Zd ?_ | refine Zf ?_ _)); exact BK252.out⟩, ⟨hB_⟩⟩
 case round =>
  clear H'
  try clear p2
  try clear c4
  try clear c7
  try clear c8
  try clear c9
  try clear hcz5_0
  try clear hcz5_1
  try clear hcz9_0
  try clear hcz9_1
  try clear hfz5_0
  try clear hfz5_1
  try clear hfz9_0
  try clear hfz9_1
  obtain ⟨x4_1, x253001_1, u253001, rfl, HA, HK1, HO_253001, BK250, BK251, BK252, HB⟩ := hrel
  cases gk with
  | zero => exact absurd HA.out (by simp [spec_l4Copy.l0])
  | succ k1 =>
   have H := HA.out
   clear HA
   simp only [spec_l4Copy.l0] at H
   by_cases c10 : x4_1 < (l0_1.length : Int)
   ·rw [if_pos c10] at H
    have c10b0 : decide (x4_1 < (l0_1.length : Int)) = true := decide_eq_true c10
    clear c10
    obtain ⟨y253, hy253⟩ : ∃ y_ : List Int, y_ = (([] : List Int)) := ⟨_, rfl⟩
    replace H : (if 0 ≤ x4_1 then (if y253.length + (rd_L1 l0_1 x4_1).length < 17592186044416 then (if x253001_1.length < 5864062014805 then (spec_l4Copy.l0 k1 (wrap64 (x4_1 + 1)) a0_0 l0_1 a0_0 (x253001_1 ++ [(y253 ++ (rd_L1 l0_1 x4_1))])) else (none)) else (none)) else (none)) = some (r1, r2) := hy_ hy253 H
    have Ny253 := Aside0.mk hy253
    clear hy253
    by_cases c11 : 0 ≤ x4_1
    ·rw [if_pos c11] at H
     have c11b0 : decide (0 ≤ x4_1) = true := decide_eq_true c11
     clear c11
     by_cases c12 : y253.length + (rd_L1 l0_1 x4_1).length < 17592186044416
     ·rw [if_pos c12] at H
      have LMc12 := Aside0.mk c12
      clear c12
      obtain ⟨y257, hy257⟩ : ∃ y_ : List Int, y_ = (y253 ++ (rd_L1 l0_1 x4_1)) := ⟨_, rfl⟩
      replace H : (if x253001_1.length < 5864062014805 then (spec_l4Copy.l0 k1 (wrap64 (x4_1 + 1)) a0_0 l0_1 a0_0 (x253001_1 ++ [y257])) else (none)) = some (r1, r2) := hy_ hy257 H
      have Ny257 := Aside0.mk hy257
      clear hy257
      by_cases c13 : x253001_1.length < 5864062014805
      ·rw [if_pos c13] at H
       have LMc13 := Aside0.mk c13
       clear c13
       obtain ⟨y260, hy260⟩ : ∃ y_ : List (List Int), y_ = (x253001_1 ++ [y257]) := ⟨_, rfl⟩
       replace H : (spec_l4Copy.l0 k1 (wrap64 (x4_1 + 1)) a0_0 l0_1 a0_0 y260) = some (r1, r2) := hy_ hy260 H
       have Ny260 := Aside0.mk hy260
       clear hy260
       have H' := Aside0.mk H
       clear H
       have hnb14 := NB250_251.out
       have hnc14 := NB251_250.out
       have hnb15 := NB250_252.out
       have hnc15 := NB252_250.out
       have hcz16_0 : wr.cell? ⟨gb250, 0, none⟩ = some (.int .i64 a0_0) := (Za BK250.out 0).trans rfl
       have hcz16_1 : wr.cell? ⟨gb250, 1, none⟩ = some (.slice A0_1 l0_1.length c0_1) := (Za BK250.out 1).trans rfl
       have hfz16_0 := Zb BK250.out 0
       have hfz16_1 := Zb BK250.out 1
       try go_wp2
       replace HO_253001 := Aside0.mk (Zr HO_253001.out)
       replace BK250 := Aside0.mk (Zd BK250.out)
       replace BK251 := Aside0.mk (Zd BK251.out)
       replace BK252 := Aside0.mk (Zd BK252.out)
       replace HB := Aside0.mk (Zi HB.out)
       have p256 : 0 ≤ (x4_1 : Int) := of_decide_eq_true as_
       have q256 : x4_1 < (l0_1.length : Int) := of_decide_eq_true as_
       obtain ⟨ad256, A256_0, c256_0, e256, hx256_0, hl256_0, hi256_0⟩ := at_L1 HR0_1.out x4_1 p256 q256
       have hw256_0 := hx256_0
       cases e256
       replace hx256_0 := (HB.out.cell (World.block_lt_of_cell? w _ hx256_0)).trans hx256_0
       have HR256_0 := Aside0.mk hi256_0
       have HC256_0 := Aside0.mk hl256_0
       clear hi256_0 hl256_0
       replace p256 := eq_true p256
       replace q256 := eq_true q256
       refine start_ (n := 13) (S := fun w' => w'.cell? ⟨gb252, 0, none⟩ = some (.int .i64 a0_0) ∧ w'.cell? ⟨gb252, 1, none⟩ = some (u253001) ∧ w'.cell? ⟨gb250, 0, none⟩ = some (.int .i64 a0_0) ∧ w'.cell? ⟨gb250, 1, none⟩ = some (.slice (some ad256) l0_1.length c0_1) ∧ w'.cell? (ad256.add (x4_1).toNat) = some (.slice A256_0 (rd_L1 l0_1 x4_1).length c256_0)) (ds := [12]) #[O,O,O,O,O,O,O,O,O,O,O,O,O] (by kernel_rfl) rfl rfl ⟨(Za BK252.out 0).trans rfl, (Za BK252.out 1).trans rfl, (Za BK250.out 0).trans rfl, (Za BK250.out 1).trans rfl, ((HB.out.cell (World.block_lt_of_cell? w _ hw256_0)).trans hw256_0)⟩ (fun hHeld => ?_); refine with_tabW spec_l4Copy.tab5 spec_l4Copy.bits5 (fun HT_ HW_ => ?_)
       generalize wr.drew = w17 at HO_253001 BK250 BK251 BK252 HB HR256_0 hx256_0 hHeld ⊢
       refine pu_ 0 15 #[Y,O,O,O,O,O,O,O,O,O,O,O,O] ?_
       refine pu_ 3 18 #[Y,O,O,Y,O,O,O,O,O,O,O,O,O] ?_
       refine pu_ 5 20 #[Y,O,O,Y,O,Y,O,O,O,O,O,O,O] ?_
       refine tk5_ 1 16 #[Y,Y,O,Y,O,Y,O,O,O,O,O,O,O] hHeld ?_
       refine tk5_ 4 19 #[Y,Y,O,Y,Y,Y,O,O,O,O,O,O,O] hHeld ?_
       refine pu_ 6 21 #[Y,Y,O,Y,Y,Y,Y,O,O,O,O,O,O] ?_
       refine tk5_ 7 22 #[Y,Y,O,Y,Y,Y,Y,Y,O,O,O,O,O] hHeld ?_
       refine on_ 2 17 #[Y,Y,Y,Y,Y,Y,Y,Y,O,O,O,O,O] (fun K hK => ?_)
       refine Kd.R_lit_step (Kd.int .i64) _ 3 ?hg (N := 17) ?hd (xs := ([] : List Int)) (inner := []) (ok := fun _ => True) (okp := fun _ => True) ?hr ?hp (fun _ hk => hk) trivial (Below.refl _ _) (Nat.le_refl _) (by simp) ?_; (case hd => rfl); (case hg => rfl); (case hr => first | (go_simp; done) | (go_simp; rfl)); (case hp => exact (Reps.none _ _))
       intro v254 w18 ho19 hb hg_ hnew_
       clear hg_ hnew_
       (first | rw [← Ny253.out] at ho19 | (simp only [Int.reduceToNat] at ho19; rw [← Ny253.out] at ho19))
       replace HO_253001 := Aside0.mk (Kd.S_elder' (rS_ HO_253001.out) (ZS ho19) hb)
       have HO255 := Aside0.mk (ZI ho19 (Zl hB_))
       replace BK250 := Aside0.mk (Zc (g := gb250) (o := .cells #[.int .i64 a0_0, .slice (some ad256) l0_1.length c0_1] 27 (0, 0)) (bk_ BK250.out) hb)
       replace BK251 := Aside0.mk (Zc (g := gb251) (o := .cells #[.int .i64 0, .slice none 0 0] 27 (0, 0)) (bk_ BK251.out) hb)
       replace BK252 := Aside0.mk (Zc (g := gb252) (o := .cells #[.int .i64 a0_0, u253001] 27 (0, 0)) (bk_ BK252.out) hb)
       replace HB := Aside0.mk (Ze hB_ hb)
       clear hb ho19
       refine hK.out _ _ ⟨(Za BK252.out 0).trans rfl, (Za BK252.out 1).trans rfl, (Za BK250.out 0).trans rfl, (Za BK250.out 1).trans rfl, ((HB.out.cell (World.block_lt_of_cell? w _ hw256_0)).trans hw256_0)⟩ (fun hHeld => ?_)
       clear hK K
       refine no_ 17 ?_
       refine on_ 8 23 #[Y,Y,Y,Y,Y,Y,Y,Y,Y,O,O,O,O] (fun K hK => ?_)
       refine Kd.R_append_rows_step (Kd.int .i64) (w0 := w) w.heap.size (by rfl) (.tmp 17) (.tmp 22) 31 3 (.int .i64 0) 8 rfl Try.underlying31 info3 rfl (by decide) (by omega) v254 y253 (rd_L1 l0_1 x4_1) _ _ _ (fun _ => True) (fun _ => False) rfl rfl ?aO ?aR (fun _ _ h => h) (fun _ h => h.elim) ?aF ?aB ?aS ?aL ?_
       (case aR => exact cb_ HR256_0.out)
       (case aB => exact hB_)
       (case aF => exact (fun _ _ => trivial))
       (case aO => exact (rR_ HO255.out))
       (case aS => exact (Zl hB_))
       (case aL => have := LMc12.out; omega)
       intro v258 w20 ho hb hg hat
       rw [← Ny257.out] at ho
       have n0_ := Aside0.mk (Kd.S_after (ok := (fun _ => True)) (rS_ HO_253001.out) hg hat)
       have n1_ := Aside0.mk (ZO (g := gb250) (o := .cells #[.int .i64 a0_0, .slice (some ad256) l0_1.length c0_1] 27 (0, 0)) (bk_ BK250.out) hg (Kd.R_ne HO255.out BK250.out (by decide)))
       have n2_ := Aside0.mk (ZO (g := gb251) (o := .cells #[.int .i64 0, .slice none 0 0] 27 (0, 0)) (bk_ BK251.out) hg (Kd.R_ne HO255.out BK251.out (by decide)))
       have n3_ := Aside0.mk (ZO (g := gb252) (o := .cells #[.int .i64 a0_0, u253001] 27 (0, 0)) (bk_ BK252.out) hg (Kd.R_ne HO255.out BK252.out (by decide)))
       have n4_ := Aside0.mk (hb)
       have n5_ := Aside0.mk (ho)
       clear HO_253001
       clear BK250
       clear BK251
       clear BK252
       clear HB
       clear HO255
       have HO_253001 := n0_
       have BK250 := n1_
       have BK251 := n2_
       have BK252 := n3_
       have HB := n4_
       have HO259 := n5_
       clear n0_ n1_ n2_ n3_ n4_ n5_
       clear ho hb hg hat
       obtain ⟨Ao22, co22, eo22⟩ := ZP HO259.out
       (first | subst eo22 | (injection eo22 with f1_ f2_ f3_; have f4_ := f1_.symm; have f5_ := f3_.symm; clear f1_ f2_ f3_; subst f4_; subst f5_))
       refine hK.out _ _ ⟨(Za BK252.out 0).trans rfl, (Za BK252.out 1).trans rfl, (Za BK250.out 0).trans rfl, (Za BK250.out 1).trans rfl, ((HB.out.cell (World.block_lt_of_cell? w _ hw256_0)).trans hw256_0)⟩ (fun hHeld => ?_)
       clear hK K
       refine no_ 23 ?_
       refine on_ 9 24 #[Y,Y,Y,Y,Y,Y,Y,Y,Y,Y,O,O,O] (fun K hK => ?_)
       refine value_ (w1 := ?_) (v := ?_) (by rfl) rfl ?_ ?_
       rotate_left 2
       ·go_simp
        constructor
        ·rfl
        ·rfl
       refine hK.out _ _ ⟨(Za (Zf BK252.out _) 0).trans rfl, (Za (Zf BK252.out _) 1).trans rfl, (Za (Zf BK250.out _) 0).trans rfl, (Za (Zf BK250.out _) 1).trans rfl, (World.cell?_alloc_lt _ _ _ (World.block_lt_of_cell? _ _ (((HB.out.cell (World.block_lt_of_cell? w _ hw256_0)).trans hw256_0)))).trans (((HB.out.cell (World.block_lt_of_cell? w _ hw256_0)).trans hw256_0))⟩ (fun hHeld => ?_)
       clear hK K
       refine no_ 24 ?_
       refine on_ 10 25 #[Y,Y,Y,Y,Y,Y,Y,Y,Y,Y,Y,O,O] (fun K hK => ?_)
       refine Kd.S_append_step (Kd.slice 3 (Kd.int .i64)) (w0 := w) w.heap.size (by rfl) (.tmp 16) (.tmp 24) 22 31 (.slice none 0 0) 24 rfl Try.underlying22 info31 rfl (by decide) (by omega) u253001 x253001_1 y257 [.slice Ao22 y257.length co22] (fun _ => True) (fun k_ => some k_ = (.slice Ao22 y257.length co22 : Value).ownBlock) rfl rfl ?aP (fun k_ hk_ => ((Zz (ok' := fun k_ => ((fun _ => True)) k_ ∧ some k_ ≠ (u253001 : Value).ownBlock) (Kd.R_apart' (HO259.out) (Kd.S_typed HO_253001.out) (by decide)) (fun k_ hk => ⟨trivial, hk.2⟩))).1 k_ hk_.symm) ?aF ?aO ?aB ?aS ?aL ?_
       (case aP => exact Kd.M_row (Zz (Kd.R_tight rfl (Zz (ok' := fun k_ => ((fun _ => True)) k_ ∧ some k_ ≠ (u253001 : Value).ownBlock) (Kd.R_apart' (HO259.out) (Kd.S_typed HO_253001.out) (by decide)) (fun k_ hk => ⟨trivial, hk.2⟩))) (fun _ h_ => h_)))
       (case aB => exact hB_)
       (case aF => exact (fun _ _ => trivial))
       (case aO => exact (by (with_reducible repeat (first | apply Zy | apply Zx | apply Zr)); exact Zs HO_253001.out (fun k_ hk => ⟨trivial, fun e_ => hk.2 e_⟩)))
       (case aS => exact (Zl hB_))
       (case aL => have := LMc13.out; omega)
       intro v261 w21 ho hb hg hat
       rw [← Ny260.out] at ho
       have n0_ := Aside0.mk (ZO (g := gb250) (o := .cells #[.int .i64 a0_0, .slice (some ad256) l0_1.length c0_1] 27 (0, 0)) (bk_ BK250.out) hg (Kd.S_ne HO_253001.out BK250.out (by decide)))
       have n1_ := Aside0.mk (ZO (g := gb251) (o := .cells #[.int .i64 0, .slice none 0 0] 27 (0, 0)) (bk_ BK251.out) hg (Kd.S_ne HO_253001.out BK251.out (by decide)))
       have n2_ := Aside0.mk (ZO (g := gb252) (o := .cells #[.int .i64 a0_0, u253001] 27 (0, 0)) (bk_ BK252.out) hg (Kd.S_ne HO_253001.out BK252.out (by decide)))
       have n3_ := Aside0.mk (hb)
       have n4_ := Aside0.mk (ho)
       clear BK250
       clear BK251
       clear BK252
       clear HB
       clear HO_253001
       clear HO259
       have BK250 := n0_
       have BK251 := n1_
       have BK252 := n2_
       have HB := n3_
       have HO262 := n4_
       clear n0_ n1_ n2_ n3_ n4_
       clear ho hb hg hat
       obtain ⟨Ao23, co23, eo23⟩ := Kd.S_slice HO262.out
       (first | subst eo23 | (injection eo23 with f1_ f2_ f3_; have f4_ := f1_.symm; have f5_ := f3_.symm; clear f1_ f2_ f3_; subst f4_; subst f5_))
       refine hK.out _ _ ⟨(Za BK252.out 0).trans rfl, (Za BK252.out 1).trans rfl, (Za BK250.out 0).trans rfl, (Za BK250.out 1).trans rfl, ((HB.out.cell (World.block_lt_of_cell? w _ hw256_0)).trans hw256_0)⟩ (fun hHeld => ?_)
       clear hK K
       refine no_ 25 ?_
       refine pu_ 11 26 #[Y,Y,Y,Y,Y,Y,Y,Y,Y,Y,Y,Y,O] ?_
       refine last_ (i := 12) (N := none) #[Y,Y,Y,Y,Y,Y,Y,Y,Y,Y,Y,Y,Y] rfl rfl (one_of HT_.out (by kernel_rfl)) (by decide) (fun K hK => ?_)
       have hs24 : w21.cell? ⟨gb252, 1, none⟩ = some (u253001) := (Za BK252.out 1).trans rfl
       have hfs24 := Zb BK252.out 1
       have hns24_0 := NB250_252.out
       have hns24_1 := NB251_252.out
       have hms24_0 := NB252_250.out
       have hms24_1 := NB252_251.out
       refine skip_ (w1 := ?_) (by rfl) rfl ?_ ?_
       rotate_left
       ·go_simp
        rfl
       refine hK.out _ _ ?_
       clear hK K
       refine done_ (done_of HT_.out (by kernel_rfl)) ?_
       try go_wp2
       go_roundg k1
       case measure => have := HK1.out; omega
       case rel => exact ⟨(wrap64 (x4_1 + 1)), (y260), (.slice Ao23 y260.length co23), sm_, H', ⟨by have := HK1.out; omega⟩, ⟨by (with_reducible repeat (first | apply Zy | apply Zx | apply Zr)); exact Zs (Zw (p := ⟨gb252, 1, none⟩) (ZC HO262.out BK252.out (by decide)) (fun _ hk => hk.2) (.slice Ao23 y260.length co23)) (fun _ hk => trivial)⟩, ⟨by (with_reducible repeat (first | refine Zg ?_ _ | refine Zd ?_ | refine Zf ?_ _)); refine ZK ?_ NB250_252.out _; (with_reducible repeat (first | refine Zg ?_ _ | refine Zd ?_ | refine Zf ?_ _)); exact BK250.out⟩, ⟨by (with_reducible repeat (first | refine Zg ?_ _ | refine Zd ?_ | refine Zf ?_ _)); refine ZK ?_ NB251_252.out _; (with_reducible repeat (first | refine Zg ?_ _ | refine Zd ?_ | refine Zf ?_ _)); exact BK251.out⟩, ⟨by (with_reducible repeat (first | refine Zg ?_ _ | refine Zd ?_ | refine Zf ?_ _)); refine ZT (cs := #[.int .i64 a0_0, u253001]) ?_ 1 _ rfl; (with_reducible repeat (first | refine Zg ?_ _ | refine Zd ?_ | refine Zf ?_ _)); exact BK252.out⟩, ⟨hB_⟩⟩
      ·rw [if_neg c13] at H
       exact absurd H (by simp)
     ·rw [if_neg c12] at H
      exact absurd H (by simp)
    ·rw [if_neg c11] at H
     exact absurd H (by simp)
   ·rw [if_neg c10] at H
    have c10b0 : decide (x4_1 < (l0_1.length : Int)) = false := decide_eq_false c10
    clear c10
    simp only [Option.some.injEq, Prod.mk.injEq] at H
    obtain ⟨rfl, rfl⟩ := H
    have hnb25 := NB250_251.out
    have hnc25 := NB251_250.out
    have hnb26 := NB250_252.out
    have hnc26 := NB252_250.out
    have hcz27_0 : wr.cell? ⟨gb250, 0, none⟩ = some (.int .i64 a0_0) := (Za BK250.out 0).trans rfl
    have hcz27_1 : wr.cell? ⟨gb250, 1, none⟩ = some (.slice A0_1 l0_1.length c0_1) := (Za BK250.out 1).trans rfl
    have hfz27_0 := Zb BK250.out 0
    have hfz27_1 := Zb BK250.out 1
    have hnb28 := NB252_251.out
    have hnc28 := NB251_252.out
    have hcz29_0 : wr.cell? ⟨gb252, 0, none⟩ = some (.int .i64 a0_0) := (Za BK252.out 0).trans rfl
    have hcz29_1 : wr.cell? ⟨gb252, 1, none⟩ = some (u253001) := (Za BK252.out 1).trans rfl
    have hfz29_0 := Zb BK252.out 0
    have hfz29_1 := Zb BK252.out 1
    have hcz30_0 : wr.cell? ⟨gb251, 0, none⟩ = some (.int .i64 0) := (Za BK251.out 0).trans rfl
    have hcz30_1 : wr.cell? ⟨gb251, 1, none⟩ = some (.slice none 0 0) := (Za BK251.out 1).trans rfl
    have hfz30_0 := Zb BK251.out 0
    have hfz30_1 := Zb BK251.out 1
    obtain ⟨Ao31, co31, eo31⟩ := Kd.S_slice HO_253001.out
    subst eo31
    go_wp2
    refine bodyPost_ret (results_cell_row rfl _ _ gb251 27 #[.int .i64 a0_0, .slice Ao31 x253001_1.length co31] (0, 0) _ rfl (by (with_reducible repeat (first | refine Zg ?_ _ | refine Zd ?_ | refine Zf ?_ _)); refine ZT (cs := #[.int .i64 a0_0, .slice none 0 0]) ?_ 1 _ rfl; (with_reducible repeat (first | refine Zg ?_ _ | refine Zd ?_ | refine Zf ?_ _)); refine ZT (cs := #[.int .i64 0, .slice none 0 0]) ?_ 0 _ rfl; (with_reducible repeat (first | refine Zg ?_ _ | refine Zd ?_ | refine Zf ?_ _)); exact BK251.out) Try.underlying27 rfl (by kernel_rfl)) rfl ?_
    exact ⟨_, er_, by (with_reducible repeat (first | apply Zy | apply Zx | apply Zr)); exact Zs (Zw (p := ⟨gb251, 1, none⟩) (Zw (p := ⟨gb251, 0, none⟩) (ZC HO_253001.out BK251.out (by decide)) (fun _ hk => hk.2) (.int .i64 a0_0)) (fun _ hk => hk.2) (.slice Ao31 x253001_1.length co31)) (fun _ hk => trivial), hB_⟩

end Go.Proofs.Ytdlobolnajcfnaa.PFnGames
