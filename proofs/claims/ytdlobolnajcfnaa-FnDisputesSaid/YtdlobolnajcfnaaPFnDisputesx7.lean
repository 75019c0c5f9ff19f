-- Written by a program of this session (hooks of mine on the print): Lean checks it.
import Derived.Test.YtdlobolnajcfnaaPFnDisputesx0
namespace Go.Proofs.Ytdlobolnajcfnaa.PFnDisputes
open Go.RowKit Go.Proofs.YtdlobolnajcfnaaW.PrintWords Go.Proofs.YtdlobolnajcfnaaW.PrintLast Go.Proofs.YtdlobolnajcfnaaW.PrintMore
attribute [local go_sem] max2_int min2_int max_two min_two max_three min_three max_four min_four   -- for this text's walks alone
set_option linter.unusedVariables false
set_option linter.unusedSimpArgs false

/-! ### spec_l4Copy: function 92 -/
def spec_l4Copy.l0 : Nat → Int → Int → List (List Int) → Int → List (List Int) → Option (Int × (List (List Int)))
 | 0, _, _, _, _, _ => none
 | k + 1, x4, x241000, x241001, x243000, x243001 => if x4 < (x241001.length : Int) then ((some (([] : List Int) : List Int)).bind fun y243 => (if 0 ≤ x4 then (if y243.length + (rd_L2 x241001 x4).length < 17592186044416 then (if x243001.length < 5864062014805 then (spec_l4Copy.l0 k (wrap64 (x4 + 1)) x241000 x241001 x243000 (x243001 ++ [(y243 ++ (rd_L2 x241001 x4))])) else (none)) else (none)) else (none))) else (some (x243000, x243001))
def spec_l4Copy.f (k : Nat) (a0_0 : Int) (l0_1 : List (List Int)) : Option (Int × (List (List Int))) := spec_l4Copy.l0 k 0 a0_0 l0_1 a0_0 ([] : List (List Int))
theorem spec_l4Copy.mono_l : ∀ k, (∀ y0 y1 y2 y3 y4, LeO (spec_l4Copy.l0 k y0 y1 y2 y3 y4) (spec_l4Copy.l0 (k + 1) y0 y1 y2 y3 y4))
 | 0 => fun _ _ _ _ _ r h => by simp [spec_l4Copy.l0] at h
 | k + 1 => by
  have ih0 := spec_l4Copy.mono_l k
  ·intro y0 y1 y2 y3 y4
   unfold spec_l4Copy.l0
   repeat' with_reducible first | apply ih0 | apply ZJ | apply Zn | refine Zu ?_ ?_ | refine Zo ?_ (fun _ => ?_)
theorem spec_l4Copy.mono : ∀ a0 a1 k, LeO (spec_l4Copy.f k a0 a1) (spec_l4Copy.f (k + 1) a0 a1) := by
 intro a0 a1 k
 have ih0 := spec_l4Copy.mono_l k
 unfold spec_l4Copy.f
 repeat' with_reducible first | apply ih0 | apply ZJ | apply Zn | refine Zu ?_ ?_ | refine Zo ?_ (fun _ => ?_)
def spec_l4Copy.T5 : Bool × List (List Nat × List Nat) := (true, [([], []), ([0], [0]), ([], []), ([], []), ([3], [3]), ([], []), ([4, 5], [4, 5]), ([6], [6]), ([2, 7], [2, 7]), ([8], [8]), ([1, 9, 8], [1, 9]), ([0, 1, 2, 3, 4, 5, 6, 7, 8, 9, 10], []), ([11, 10, 10, 0, 1, 2, 3, 4, 5, 6, 7, 8, 9, 10], [10, 11])])
def spec_l4Copy.B5 : List Nat := [0, 1, 0, 0, 8, 0, 56, 120, 252, 508, 1023, 2047, 4095]
theorem spec_l4Copy.tab5 : rtab .any (opsOf Try.f92 5) = spec_l4Copy.T5 := by kernel_rfl
theorem spec_l4Copy.bits5 : waitsOk spec_l4Copy.T5.2 spec_l4Copy.B5 = true := by kernel_rfl
set_option maxHeartbeats 8000000 in
set_option maxRecDepth 100000 in
theorem spec_l4Copy.calls (k : Nat) (a0_0 : Int) (A0_1 : Option Addr) (c0_1 : Nat) (l0_1 : List (List Int)) (r1 : Int) (r2 : List (List Int)) (w : World) (hr0_1 : Kd.C (Kd.slice 3 (Kd.int .i64)) w A0_1 l0_1.length l0_1) (hc0_1 : l0_1.length ≤ c0_1) (h : spec_l4Copy.f k a0_0 l0_1 = some (r1, r2)) :
  Calls Try.prog 92 #[.agg #[.int .i64 a0_0, .slice A0_1 l0_1.length c0_1]] w fun e w' => ∃ v1_ : Value, e = .returned (.agg #[.int .i64 r1, v1_]) ∧ Kd.S (Kd.slice 3 (Kd.int .i64)) 31 w' w.heap.size (fun _ => True) v1_ r2 ∧ Below w.heap.size w w' := by
 have hu27 := Try.underlying27
 have HR0_1 := Aside0.mk hr0_1
 have HC0_1 := Aside0.mk hc0_1
 clear hr0_1 hc0_1
 have HB := Aside0.mk (Below.refl w.heap.size w)
 have H := h
 unfold spec_l4Copy.f at H
 clear h
 have H' := Aside0.mk H
 clear H
 go_enter Try.func92, Try.ntmps92
 go_wp2_with (first | ((with_reducible refine ZA (N := 1) rfl ?_); refine ZC ?hg (N := 1) ?hd (cs := #[.int .i64 a0_0, .slice A0_1 l0_1.length c0_1]) (t := 27) ?hr ?_; (case hd => rfl); (case hg => rfl); (case hr => first | (go_simp; done) | (go_simp; rfl)); intro gb240 hg w2 hbox hb; have BK240 := Aside0.mk (hbox); have GW240 := Aside0.mk ((hz_ hg : w.heap.size ≤ gb240)); have GE240 := Aside0.mk ((hz_ hg : w.heap.size ≤ gb240)); replace HB := Aside0.mk (Zh hB_ hb); clear hb hbox hg) | ((with_reducible refine ZA (N := 2) rfl ?_); refine ZC ?hg (N := 2) ?hd (cs := #[.int .i64 0, .slice none 0 0]) (t := 27) ?hr ?_; (case hd => rfl); (case hg => rfl); (case hr => first | (go_simp; done) | (go_simp; rfl)); intro gb241 hg w3 hbox hb; have BK241 := Aside0.mk (hbox); have GW241 := Aside0.mk ((hz_ hg : w.heap.size ≤ gb241)); have GE241 := Aside0.mk ((hz_ hg : w.heap.size ≤ gb241)); replace HB := Aside0.mk (Zh hB_ hb); have NB240_241 := Aside0.mk ((by rw [hg]; exact Nat.ne_of_lt (ZS (bq_ BK240.out)) : gb240 ≠ gb241)); have NB241_240 := Aside0.mk ((by rw [hg]; exact Nat.ne_of_gt (ZS (bq_ BK240.out)) : gb241 ≠ gb240)); replace BK240 := Aside0.mk (Zg (bq_ BK240.out) hb); clear hb hbox hg; have hnb4 := NB240_241.out; have hnc4 := NB241_240.out; obtain ⟨hcz5_0, hcz5_1, hfz5_0, hfz5_1⟩ := c2_ BK240.out) | ((with_reducible refine ZA (N := 3) rfl ?_); refine ZC ?hg (N := 3) ?hd (cs := #[.int .i64 0, .slice none 0 0]) (t := 27) ?hr ?_; (case hd => rfl); (case hg => rfl); (case hr => first | (go_simp; done) | (go_simp; rfl)); intro gb242 hg w6 hbox hb; have BK242 := Aside0.mk (hbox); have GW242 := Aside0.mk ((hz_ hg : w.heap.size ≤ gb242)); have GE242 := Aside0.mk ((hz_ hg : w.heap.size ≤ gb242)); replace HB := Aside0.mk (Zh hB_ hb); have NB240_242 := Aside0.mk ((by rw [hg]; exact Nat.ne_of_lt (ZS (bq_ BK240.out)) : gb240 ≠ gb242)); have NB242_240 := Aside0.mk ((by rw [hg]; exact Nat.ne_of_gt (ZS (bq_ BK240.out)) : gb242 ≠ gb240)); replace BK240 := Aside0.mk (Zg (bq_ BK240.out) hb); have NB241_242 := Aside0.mk ((by rw [hg]; exact Nat.ne_of_lt (ZS (bq_ BK241.out)) : gb241 ≠ gb242)); have NB242_241 := Aside0.mk ((by rw [hg]; exact Nat.ne_of_gt (ZS (bq_ BK241.out)) : gb242 ≠ gb241)); replace BK241 := Aside0.mk (Zg (bq_ BK241.out) hb); clear hb hbox hg; have hnb7 := NB242_240.out; have hnc7 := NB240_242.out; have hnb8 := NB242_241.out; have hnc8 := NB241_242.out; obtain ⟨hcz9_0, hcz9_1, hfz9_0, hfz9_1⟩ := c2_ BK242.out))
 go_loopg [4] k (fun kq v4 w' => ∃ (x4_1 : Int) (x243001_1 : List (List Int)) (u243001 : Value), v4 = .int .i64 x4_1 ∧ Aside0 (spec_l4Copy.l0 kq x4_1 a0_0 l0_1 a0_0 x243001_1 = some (r1, r2)) ∧ Aside0 (kq ≤ k) ∧ Aside0 (Kd.S (Kd.slice 3 (Kd.int .i64)) 31 w' w.heap.size (fun _ => True) u243001 x243001_1) ∧ Aside0 (w'.heap[gb240]? = some (.cells #[.int .i64 a0_0, (.slice A0_1 l0_1.length c0_1)] 27 (0, 0))) ∧ Aside0 (w'.heap[gb241]? = some (.cells #[.int .i64 0, (.slice none 0 0)] 27 (0, 0))) ∧ Aside0 (w'.heap[gb242]? = some (.cells #[.int .i64 a0_0, u243001] 27 (0, 0))) ∧ Aside0 (Below w.heap.size w w'))
 case atStart => exact ⟨(0), (([] : List (List Int))), (.slice none 0 0), sm_, H', ⟨Nat.le_refl _⟩, ⟨by first | exact Kd.S_nil _ _ _ _ _ | exact Kd.N_nil _ _ _ _ _ | exact Kd.V_nil _ _ _ _ _ | exact Kd.Q_nil _ _ _ _ _ | exact Kd.R_nil _ _ _ _ _⟩, ⟨by (with_reducible repeat (first | refine Ze ?_ _ | refine Zf ?_ | refine Zd ?_ _)); refine ZG ?_ NB240_242.out _; (with_reducible repeat (first | refine Ze ?_ _ | refine Zf ?_ | refine Zd ?_ _)); refine ZG ?_ NB240_242.out _; (with_reducible repeat (first | refine Ze ?_ _ | refine Zf ?_ | refine Zd ?_ _)); exact BK240.out⟩, ⟨by (with_reducible repeat (first | refine Ze ?_ _ | refine Zf ?_ | refine Zd ?_ _)); refine ZG ?_ NB241_242.out _; (with_reducible repeat (first | refine Ze ?_ _ | refine Zf ?_ | refine Zd ?_ _)); refine ZG ?_ NB241_242.out _; (with_reducible repeat (first | refine Ze ?_ _ | refine Zf ?_ | refine Zd ?_ _)); exact BK241.out⟩, ⟨by (with_reducible repeat (first | refine Ze ?_ _ | refine Zf ?_ | refine Zd ?_ _)); refine ZB (cs := #[.int .i64 a0_0, .slice none 0 0]) ?_ 1 _ rfl; (with_reducible repeat (first | refine Ze ?_ _ | refine Zf ?_ | refine Zd ?_ _)); refine ZB (cs := #[.int .i64 0, .slice none 0 0]) ?_ 0 _ rfl; (with_reducible repeat (first | refine Ze ?_ _ | refine Zf ?_ | refine Zd ?_ _)); exact BK242.out⟩, ⟨hB_⟩⟩
 case round =>
  clear H'
  try clear p2
  try clear c4
  try clear c7
  try clear c8
  try clear c9
  try clear hcz5_0
  try clear hcz5_1
  try clear hcz9_0
  try clear hcz9_1
  try clear hfz5_0
  try clear hfz5_1
  try clear hfz9_0
  try clear hfz9_1
  obtain ⟨x4_1, x243001_1, u243001, rfl, HA, HK1, HO_243001, BK240, BK241, BK242, HB⟩ := hrel
  cases gk with
  | zero => exact absurd HA.out (by simp [spec_l4Copy.l0])
  | succ k1 =>
   have H := HA.out
   clear HA
   simp only [spec_l4Copy.l0] at H
   by_cases c10 : x4_1 < (l0_1.length : Int)
   rotate_left
   ·rw [if_neg c10] at H
    have c10b0 : decide (x4_1 < (l0_1.length : Int)) = false := decide_eq_false c10
    clear c10
    simp only [Option.some.injEq, Prod.mk.injEq] at H
    obtain ⟨rfl, rfl⟩ := H
    have hnb25 := NB240_241.out
    have hnc25 := NB241_240.out
    have hnb26 := NB240_242.out
    have hnc26 := NB242_240.out
    obtain ⟨hcz27_0, hcz27_1, hfz27_0, hfz27_1⟩ := c2_ BK240.out
    have hnb28 := NB242_241.out
    have hnc28 := NB241_242.out
    obtain ⟨hcz29_0, hcz29_1, hfz29_0, hfz29_1⟩ := c2_ BK242.out
    obtain ⟨hcz30_0, hcz30_1, hfz30_0, hfz30_1⟩ := c2_ BK241.out
    obtain ⟨Ao31, co31, eo31⟩ := ZN HO_243001.out
    subst eo31
    go_wp2
    refine bodyPost_ret (results_cell_row rfl _ _ gb241 27 #[.int .i64 a0_0, .slice Ao31 x243001_1.length co31] (0, 0) _ rfl (by (with_reducible repeat (first | refine Ze ?_ _ | refine Zf ?_ | refine Zd ?_ _)); refine ZB (cs := #[.int .i64 a0_0, .slice none 0 0]) ?_ 1 _ rfl; (with_reducible repeat (first | refine Ze ?_ _ | refine Zf ?_ | refine Zd ?_ _)); refine ZB (cs := #[.int .i64 0, .slice none 0 0]) ?_ 0 _ rfl; (with_reducible repeat (first | refine Ze ?_ _ | refine Zf ?_ | refine Zd ?_ _)); exact BK241.out) Try.underlying27 rfl (by kernel_rfl)) rfl ?_
    exact ⟨_, er_, by (with_reducible repeat (first | apply Zs | apply Zr | apply Zp)); exact Zt (Zq (p := ⟨gb241, 1, none⟩) (Zq (p := ⟨gb241, 0, none⟩) (Zv HO_243001.out BK241.out (by decide)) (fun _ hk => hk.2) (.int .i64 a0_0)) (fun _ hk => hk.2) (.slice Ao31 x243001_1.length co31)) (fun _ hk => trivial), hB_⟩
   rw [if_pos c10] at H
   have c10b0 : decide (x4_1 < (l0_1.length : Int)) = true := decide_eq_true c10
   clear c10
   obtain ⟨y243, hy243⟩ : ∃ y_ : List Int, y_ = (([] : List Int)) := ⟨_, rfl⟩
   replace H : (if 0 ≤ x4_1 then (if y243.length + (rd_L2 l0_1 x4_1).length < 17592186044416 then (if x243001_1.length < 5864062014805 then (spec_l4Copy.l0 k1 (wrap64 (x4_1 + 1)) a0_0 l0_1 a0_0 (x243001_1 ++ [(y243 ++ (rd_L2 l0_1 x4_1))])) else (none)) else (none)) else (none)) = some (r1, r2) := hy_ hy243 H
   have Ny243 := Aside0.mk hy243
   clear hy243
   by_cases c11 : 0 ≤ x4_1
   rotate_left
   ·rw [if_neg c11] at H
    exact absurd H (by simp)
   rw [if_pos c11] at H
   have c11b0 : decide (0 ≤ x4_1) = true := decide_eq_true c11
   clear c11
   by_cases c12 : y243.length + (rd_L2 l0_1 x4_1).length < 17592186044416
   rotate_left
   ·rw [if_neg c12] at H
    exact absurd H (by simp)
   rw [if_pos c12] at H
   have LMc12 := Aside0.mk c12
   clear c12
   obtain ⟨y247, hy247⟩ : ∃ y_ : List Int, y_ = (y243 ++ (rd_L2 l0_1 x4_1)) := ⟨_, rfl⟩
   replace H : (if x243001_1.length < 5864062014805 then (spec_l4Copy.l0 k1 (wrap64 (x4_1 + 1)) a0_0 l0_1 a0_0 (x243001_1 ++ [y247])) else (none)) = some (r1, r2) := hy_ hy247 H
   have Ny247 := Aside0.mk hy247
   clear hy247
   by_cases c13 : x243001_1.length < 5864062014805
   rotate_left
   ·rw [if_neg c13] at H
    exact absurd H (by simp)
   rw [if_pos c13] at H
   have LMc13 := Aside0.mk c13
   clear c13
   obtain ⟨y250, hy250⟩ : ∃ y_ : List (List Int), y_ = (x243001_1 ++ [y247]) := ⟨_, rfl⟩
   replace H : (spec_l4Copy.l0 k1 (wrap64 (x4_1 + 1)) a0_0 l0_1 a0_0 y250) = some (r1, r2) := hy_ hy250 H
   have Ny250 := Aside0.mk hy250
   clear hy250
   have H' := Aside0.mk H
   clear H
   have hnb14 := NB240_241.out
   have hnc14 := NB241_240.out
   have hnb15 := NB240_242.out
   have hnc15 := NB242_240.out
   obtain ⟨hcz16_0, hcz16_1, hfz16_0, hfz16_1⟩ := c2_ BK240.out
   try go_wp2
   replace HO_243001 := Aside0.mk (Zp HO_243001.out)
   replace BK240 := Aside0.mk (Zf BK240.out)
   replace BK241 := Aside0.mk (Zf BK241.out)
   replace BK242 := Aside0.mk (Zf BK242.out)
   replace HB := Aside0.mk (Zj HB.out)
   have p246 : 0 ≤ (x4_1 : Int) := of_decide_eq_true as_
   have q246 : x4_1 < (l0_1.length : Int) := of_decide_eq_true as_
   obtain ⟨ad246, A246_0, c246_0, e246, hx246_0, hl246_0, hi246_0⟩ := at_L2 HR0_1.out x4_1 p246 q246
   have hw246_0 := hx246_0
   cases e246
   replace hx246_0 := (HB.out.cell (World.block_lt_of_cell? w _ hx246_0)).trans hx246_0
   have HR246_0 := Aside0.mk hi246_0
   have HC246_0 := Aside0.mk hl246_0
   clear hi246_0 hl246_0
   replace p246 := eq_true p246
   replace q246 := eq_true q246
   refine start_ (n := 13) (S := fun w' => w'.cell? ⟨gb242, 0, none⟩ = some (.int .i64 a0_0) ∧ w'.cell? ⟨gb242, 1, none⟩ = some (u243001) ∧ w'.cell? ⟨gb240, 0, none⟩ = some (.int .i64 a0_0) ∧ w'.cell? ⟨gb240, 1, none⟩ = some (.slice (some ad246) l0_1.length c0_1) ∧ w'.cell? (ad246.add (x4_1).toNat) = some (.slice A246_0 (rd_L2 l0_1 x4_1).length c246_0)) (ds := [12]) (m_ 13 0) (by kernel_rfl) rfl rfl ⟨(Za BK242.out 0).trans rfl, (Za BK242.out 1).trans rfl, (Za BK240.out 0).trans rfl, (Za BK240.out 1).trans rfl, ((HB.out.cell (World.block_lt_of_cell? w _ hw246_0)).trans hw246_0)⟩ (fun hHeld => ?_); refine with_tabW spec_l4Copy.tab5 spec_l4Copy.bits5 (fun HT_ HW_ => ?_)
   generalize wr.drew = w17 at HO_243001 BK240 BK241 BK242 HB HR246_0 hx246_0 hHeld ⊢
   refine pu_ 0 15 (m_ 13 1) ?_
   refine pu_ 3 18 (m_ 13 9) ?_
   refine pu_ 5 20 (m_ 13 41) ?_
   refine tk5_ 1 16 (m_ 13 43) hHeld ?_
   refine tk5_ 4 19 (m_ 13 59) hHeld ?_
   refine pu_ 6 21 (m_ 13 123) ?_
   refine tk5_ 7 22 (m_ 13 251) hHeld ?_
   refine on_ 2 17 (m_ 13 255) (fun K hK => ?_)
   refine Kd.R_lit_step (Kd.int .i64) _ 3 ?hg (N := 17) ?hd (xs := ([] : List Int)) (inner := []) (ok := fun _ => True) (okp := fun _ => True) ?hr ?hp (fun _ hk => hk) trivial (Below.refl _ _) (Nat.le_refl _) (by simp) ?_; (case hd => rfl); (case hg => rfl); (case hr => first | (go_simp; done) | (go_simp; rfl)); (case hp => exact (Reps.none _ _))
   intro v244 w18 ho19 hb hg_ hnew_
   clear hg_ hnew_
   (first | rw [← Ny243.out] at ho19 | (simp only [Int.reduceToNat] at ho19; rw [← Ny243.out] at ho19))
   replace HO_243001 := Aside0.mk (Kd.S_elder' (rS_ HO_243001.out) (Kd.R_base ho19) hb)
   have HO245 := Aside0.mk (Kd.R_lower ho19 (Zm hB_))
   replace BK240 := Aside0.mk (Zg (bq_ BK240.out) hb)
   replace BK241 := Aside0.mk (Zg (bq_ BK241.out) hb)
   replace BK242 := Aside0.mk (Zg (bq_ BK242.out) hb)
   replace HB := Aside0.mk (Zh hB_ hb)
   clear hb ho19
   refine hK.out _ _ ⟨(Za BK242.out 0).trans rfl, (Za BK242.out 1).trans rfl, (Za BK240.out 0).trans rfl, (Za BK240.out 1).trans rfl, ((HB.out.cell (World.block_lt_of_cell? w _ hw246_0)).trans hw246_0)⟩ (fun hHeld => ?_)
   clear hK K
   refine no_ 17 ?_
   refine on_ 8 23 (m_ 13 511) (fun K hK => ?_)
   refine Kd.R_append_rows_step (Kd.int .i64) (w0 := w) w.heap.size (by rfl) (.tmp 17) (.tmp 22) 31 3 (.int .i64 0) 8 rfl Try.underlying31 info3 rfl (by decide) (by omega) v244 y243 (rd_L2 l0_1 x4_1) _ _ _ (fun _ => True) (fun _ => False) rfl rfl ?aO ?aR (fun _ _ h => h) (fun _ h => h.elim) ?aF ?aB ?aS ?aL ?_
   (case aR => exact cb_ HR246_0.out)
   (case aB => exact hB_)
   (case aF => exact (fun _ _ => trivial))
   (case aO => exact (rR_ HO245.out))
   (case aS => exact (Zm hB_))
   (case aL => have := LMc12.out; omega)
   intro v248 w20 ho hb hg hat
   rw [← Ny247.out] at ho
   have n0_ := Aside0.mk (Kd.S_after (ok := (fun _ => True)) (rS_ HO_243001.out) hg hat)
   have n1_ := Aside0.mk (ZT (bq_ BK240.out) hg (Kd.R_ne HO245.out BK240.out (by decide)))
   have n2_ := Aside0.mk (ZT (bq_ BK241.out) hg (Kd.R_ne HO245.out BK241.out (by decide)))
   have n3_ := Aside0.mk (ZT (bq_ BK242.out) hg (Kd.R_ne HO245.out BK242.out (by decide)))
   have n4_ := Aside0.mk (hb)
   have n5_ := Aside0.mk (ho)
   clear HO_243001
   clear BK240
   clear BK241
   clear BK242
   clear HB
   clear HO245
   have HO_243001 := n0_
   have BK240 := n1_
   have BK241 := n2_
   have BK242 := n3_
   have HB := n4_
   have HO249 := n5_
   clear n0_ n1_ n2_ n3_ n4_ n5_
   clear ho hb hg hat
   obtain ⟨Ao22, co22, eo22⟩ := Kd.R_slice HO249.out
   (first | subst eo22 | (injection eo22 with f1_ f2_ f3_; have f4_ := f1_.symm; have f5_ := f3_.symm; clear f1_ f2_ f3_; subst f4_; subst f5_))
   refine hK.out _ _ ⟨(Za BK242.out 0).trans rfl, (Za BK242.out 1).trans rfl, (Za BK240.out 0).trans rfl, (Za BK240.out 1).trans rfl, ((HB.out.cell (World.block_lt_of_cell? w _ hw246_0)).trans hw246_0)⟩ (fun hHeld => ?_)
   clear hK K
   refine no_ 23 ?_
   refine on_ 9 24 (m_ 13 1023) (fun K hK => ?_)
   refine value_ (w1 := ?_) (v := ?_) (by rfl) rfl ?_ ?_
   rotate_left 2
   ·go_simp
    constructor
    ·rfl
    rfl
   refine hK.out _ _ ⟨(Za (Zd BK242.out _) 0).trans rfl, (Za (Zd BK242.out _) 1).trans rfl, (Za (Zd BK240.out _) 0).trans rfl, (Za (Zd BK240.out _) 1).trans rfl, (World.cell?_alloc_lt _ _ _ (World.block_lt_of_cell? _ _ (((HB.out.cell (World.block_lt_of_cell? w _ hw246_0)).trans hw246_0)))).trans (((HB.out.cell (World.block_lt_of_cell? w _ hw246_0)).trans hw246_0))⟩ (fun hHeld => ?_)
   clear hK K
   refine no_ 24 ?_
   refine on_ 10 25 (m_ 13 2047) (fun K hK => ?_)
   refine Kd.S_append_step (Kd.slice 3 (Kd.int .i64)) (w0 := w) w.heap.size (by rfl) (.tmp 16) (.tmp 24) 22 31 (.slice none 0 0) 24 rfl Try.underlying22 info31 rfl (by decide) (by omega) u243001 x243001_1 y247 [.slice Ao22 y247.length co22] (fun _ => True) (fun k_ => some k_ = (.slice Ao22 y247.length co22 : Value).ownBlock) rfl rfl ?aP (fun k_ hk_ => ((Zw (ok' := fun k_ => ((fun _ => True)) k_ ∧ some k_ ≠ (u243001 : Value).ownBlock) (Kd.R_apart' (HO249.out) (Kd.S_typed HO_243001.out) (by decide)) (fun k_ hk => ⟨trivial, hk.2⟩))).1 k_ hk_.symm) ?aF ?aO ?aB ?aS ?aL ?_
   (case aP => exact Kd.M_row (Zw (Kd.R_tight rfl (Zw (ok' := fun k_ => ((fun _ => True)) k_ ∧ some k_ ≠ (u243001 : Value).ownBlock) (Kd.R_apart' (HO249.out) (Kd.S_typed HO_243001.out) (by decide)) (fun k_ hk => ⟨trivial, hk.2⟩))) (fun _ h_ => h_)))
   (case aB => exact hB_)
   (case aF => exact (fun _ _ => trivial))
   (case aO => exact (by (with_reducible repeat (first | apply Zs | apply Zr | apply Zp)); exact Zt HO_243001.out (fun k_ hk => ⟨trivial, fun e_ => hk.2 e_⟩)))
   (case aS => exact (Zm hB_))
   (case aL => have := LMc13.out; omega)
   intro v251 w21 ho hb hg hat
   rw [← Ny250.out] at ho
   have n0_ := Aside0.mk (ZT (bq_ BK240.out) hg (Kd.S_ne HO_243001.out BK240.out (by decide)))
   have n1_ := Aside0.mk (ZT (bq_ BK241.out) hg (Kd.S_ne HO_243001.out BK241.out (by decide)))
   have n2_ := Aside0.mk (ZT (bq_ BK242.out) hg (Kd.S_ne HO_243001.out BK242.out (by decide)))
   have n3_ := Aside0.mk (hb)
   have n4_ := Aside0.mk (ho)
   clear BK240
   clear BK241
   clear BK242
   clear HB
   clear HO_243001
   clear HO249
   have BK240 := n0_
   have BK241 := n1_
   have BK242 := n2_
   have HB := n3_
   have HO252 := n4_
   clear n0_ n1_ n2_ n3_ n4_
   clear ho hb hg hat
   obtain ⟨Ao23, co23, eo23⟩ := ZN HO252.out
   (first | subst eo23 | (injection eo23 with f1_ f2_ f3_; have f4_ := f1_.symm; have f5_ := f3_.symm; clear f1_ f2_ f3_; subst f4_; subst f5_))
   refine hK.out _ _ ⟨(Za BK242.out 0).trans rfl, (Za BK242.out 1).trans rfl, (Za BK240.out 0).trans rfl, (Za BK240.out 1).trans rfl, ((HB.out.cell (World.block_lt_of_cell? w _ hw246_0)).trans hw246_0)⟩ (fun hHeld => ?_)
   clear hK K
   refine no_ 25 ?_
   refine pu_ 11 26 (m_ 13 4095) ?_
   refine last_ (i := 12) (N := none) (m_ 13 8191) rfl rfl (one_of HT_.out (by kernel_rfl)) (by decide) (fun K hK => ?_)
   have hs24 : w21.cell? ⟨gb242, 1, none⟩ = some (u243001) := (Za BK242.out 1).trans rfl
   have hfs24 := Zb BK242.out 1
   have hns24_0 := NB240_242.out
   have hns24_1 := NB241_242.out
   have hms24_0 := NB242_240.out
   have hms24_1 := NB242_241.out
   refine skip_ (w1 := ?_) (by rfl) rfl ?_ ?_
   rotate_left
   ·go_simp
    rfl
   refine hK.out _ _ ?_
   clear hK K
   refine done_ (done_of HT_.out (by kernel_rfl)) ?_
   try go_wp2
   go_roundg k1
   case measure => have := HK1.out; omega
   case rel => exact ⟨(wrap64 (x4_1 + 1)), (y250), (.slice Ao23 y250.length co23), sm_, H', ⟨by have := HK1.out; omega⟩, ⟨by (with_reducible repeat (first | apply Zs | apply Zr | apply Zp)); exact Zt (Zq (p := ⟨gb242, 1, none⟩) (Zv HO252.out BK242.out (by decide)) (fun _ hk => hk.2) (.slice Ao23 y250.length co23)) (fun _ hk => trivial)⟩, ⟨by (with_reducible repeat (first | refine Ze ?_ _ | refine Zf ?_ | refine Zd ?_ _)); refine ZG ?_ NB240_242.out _; (with_reducible repeat (first | refine Ze ?_ _ | refine Zf ?_ | refine Zd ?_ _)); exact BK240.out⟩, ⟨by (with_reducible repeat (first | refine Ze ?_ _ | refine Zf ?_ | refine Zd ?_ _)); refine ZG ?_ NB241_242.out _; (with_reducible repeat (first | refine Ze ?_ _ | refine Zf ?_ | refine Zd ?_ _)); exact BK241.out⟩, ⟨by (with_reducible repeat (first | refine Ze ?_ _ | refine Zf ?_ | refine Zd ?_ _)); refine ZB (cs := #[.int .i64 a0_0, u243001]) ?_ 1 _ rfl; (with_reducible repeat (first | refine Ze ?_ _ | refine Zf ?_ | refine Zd ?_ _)); exact BK242.out⟩, ⟨hB_⟩⟩

end Go.Proofs.Ytdlobolnajcfnaa.PFnDisputes
