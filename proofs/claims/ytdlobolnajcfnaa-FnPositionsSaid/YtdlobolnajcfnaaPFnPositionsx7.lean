-- Written by a program of this session (hooks of mine on the print): Lean checks it.
import Derived.Test.YtdlobolnajcfnaaPFnPositionsx0
import Derived.Test.YtdlobolnajcfnaaPFnPositionsx6
namespace Go.Proofs.Ytdlobolnajcfnaa.PFnPositions
open Go.RowKit Go.Proofs.YtdlobolnajcfnaaW.PrintWords Go.Proofs.YtdlobolnajcfnaaW.PrintLast Go.Proofs.YtdlobolnajcfnaaW.PrintMore
attribute [local go_sem] max2_int min2_int max_two min_two max_three min_three max_four min_four   -- for this text's walks alone
set_option linter.unusedVariables false
set_option linter.unusedSimpArgs false

/-! ### impl_IsGraph: function 24 -/
def impl_IsGraph.l0 : Nat → List (List Int) → Int → Int → Int → List (List Int) → Option (Bool)
 | 0, _, _, _, _, _ => none
 | k + 1, x10, x11, x12, x310000, x310001 => if x12 < x11 then (if 0 ≤ x12 then (if x12 < (x10.length : Int) then (if ((rd_L2 x10 x12).length : Int) = 2 then (if 0 < ((rd_L2 x10 x12).length : Int) then ((impl_isClaim.f x310000 x310001 (rd (rd_L2 x10 x12) 0)).bind fun t313 => (if t313 = true then (if 1 < ((rd_L2 x10 x12).length : Int) then ((impl_isClaim.f x310000 x310001 (rd (rd_L2 x10 x12) 1)).bind fun t315 => (if t315 = true then (if x12 > 0 then (if 0 ≤ (wrap64 (x12 - 1)) then (if (wrap64 (x12 - 1)) < (x310001.length : Int) then ((slices_Compare_int_int.f k (rd_L2 x310001 (wrap64 (x12 - 1))) (rd_L2 x10 x12)).bind fun t317 => (if t317 ≥ 0 then (some false) else (impl_IsGraph.l0 k x10 x11 (wrap64 (x12 + 1)) x310000 x310001))) else (none)) else (none)) else (impl_IsGraph.l0 k x10 x11 (wrap64 (x12 + 1)) x310000 x310001)) else (some false))) else (none)) else (some false))) else (none)) else (some false)) else (none)) else (none)) else (some true)
def impl_IsGraph.f (k : Nat) (a0_0 : Int) (l0_1 : List (List Int)) : Option (Bool) := (impl_InRange.f a0_0 0 10).bind fun t310 => (if t310 = true then (impl_IsGraph.l0 k l0_1 (l0_1.length : Int) 0 a0_0 l0_1) else (some false))
theorem impl_IsGraph.mono_l : ∀ k, (∀ y0 y1 y2 y3 y4, LeO (impl_IsGraph.l0 k y0 y1 y2 y3 y4) (impl_IsGraph.l0 (k + 1) y0 y1 y2 y3 y4))
 | 0 => fun _ _ _ _ _ r h => by simp [impl_IsGraph.l0] at h
 | k + 1 => by
  have ih0 := impl_IsGraph.mono_l k
  ·intro y0 y1 y2 y3 y4
   unfold impl_IsGraph.l0
   repeat' with_reducible first | apply ih0 | apply slices_Compare_int_int.mono | apply Zy | apply Zg | refine Zl ?_ ?_ | refine Zh ?_ (fun _ => ?_)
theorem impl_IsGraph.mono : ∀ a0 a1 k, LeO (impl_IsGraph.f k a0 a1) (impl_IsGraph.f (k + 1) a0 a1) := by
 intro a0 a1 k
 have ih0 := impl_IsGraph.mono_l k
 unfold impl_IsGraph.f
 repeat' with_reducible first | apply ih0 | apply slices_Compare_int_int.mono | apply Zy | apply Zg | refine Zl ?_ ?_ | refine Zh ?_ (fun _ => ?_)
def impl_IsGraph.T6 : Bool × List (List Nat × List Nat) := (true, [([], []), ([0], [0]), ([1], [1]), ([2], [2]), ([3], [3]), ([3], [3]), ([5, 3], [3, 5]), ([6, 3], [3, 6]), ([4, 7, 3, 3], [3, 4, 7]), ([8, 3], [3, 8]), ([3, 9], [3, 9]), ([10, 8], [10]), ([11], [11]), ([11], [11]), ([13, 11], [11, 13]), ([14, 11], [11, 14]), ([12, 15, 11, 11], [11, 12, 15]), ([16, 11], [11, 16]), ([11, 17], [11, 17]), ([18, 16], [18]), ([19], [19]), ([20, 19], [19, 20]), ([21, 19, 19], [19, 21]), ([22], [22]), ([23, 22], [22, 23]), ([22], [22]), ([25, 22], [22, 25]), ([24, 26, 22], [22, 24, 26]), ([27, 22], [22, 27]), ([22], [22]), ([28, 29, 22, 22], [22, 28, 29]), ([30, 22], [22, 30]), ([22, 31, 19], [19, 22, 31]), ([19, 32], [19, 32])])
def impl_IsGraph.B6 : List Nat := [0, 1, 3, 7, 15, 15, 47, 111, 255, 511, 1023, 2047, 4095, 4095, 12287, 28671, 65535, 131071, 262143, 524287, 1048575, 2097151, 4194303, 8388607, 16777215, 8388607, 41943039, 134217727, 268435455, 8388607, 1073741823, 2147483647, 4294967295, 8589934591]
theorem impl_IsGraph.tab6 : rtab .any (opsOf Try.f24 6) = impl_IsGraph.T6 := by kernel_rfl
theorem impl_IsGraph.bits6 : waitsOk impl_IsGraph.T6.2 impl_IsGraph.B6 = true := by kernel_rfl
set_option maxHeartbeats 8000000 in
set_option maxRecDepth 100000 in
theorem impl_IsGraph.calls (k : Nat) (a0_0 : Int) (A0_1 : Option Addr) (c0_1 : Nat) (l0_1 : List (List Int)) (r : Bool) (w : World) (hr0_1 : Kd.C (Kd.slice 3 (Kd.int .i64)) w A0_1 l0_1.length l0_1) (hc0_1 : l0_1.length ≤ c0_1) (h : impl_IsGraph.f k a0_0 l0_1 = some r) :
  Calls Try.prog 24 #[.agg #[.int .i64 a0_0, .slice A0_1 l0_1.length c0_1]] w fun e w' => e = .returned (.bool r) ∧ Below w.heap.size w w' := by
 have hu27 := Try.underlying27
 have HR0_1 := Aside0.mk hr0_1
 have HC0_1 := Aside0.mk hc0_1
 clear hr0_1 hc0_1
 have HB := Aside0.mk (Below.refl w.heap.size w)
 have H := h
 unfold impl_IsGraph.f at H
 clear h
 obtain ⟨t310, A2, H⟩ := bd_ H
 try dsimp only at H
 by_cases c3 : t310 = true
 rotate_left
 ·replace c3 := Bool.eq_false_iff.mpr c3
  subst c3
  rw [if_neg (show ¬ (false = true) by decide)] at H
  try dsimp only at H
  obtain rfl := Option.some.inj H
  go_enter Try.func24, Try.ntmps24
  go_wp2_with (first | ((with_reducible refine Zz (N := 1) rfl ?_); refine ZI ?hg (N := 1) ?hd (cs := #[.int .i64 a0_0, .slice A0_1 l0_1.length c0_1]) (t := 27) ?hr ?_; (case hd => rfl); (case hg => rfl); (case hr => first | (go_simp; done) | (go_simp; rfl)); intro gb309 hg w37 hbox hb; have BK309 := Aside0.mk (hbox); have GW309 := Aside0.mk ((hz_ hg : w.heap.size ≤ gb309)); have GE309 := Aside0.mk ((hz_ hg : w.heap.size ≤ gb309)); replace HB := Aside0.mk (Zc hB_ hb); clear hb hbox hg; obtain ⟨hcz38_0, hcz38_1, hfz38_0, hfz38_1⟩ := c2_ BK309.out) | ((with_reducible refine Zf (f := 74) rfl ?_); refine ZC (some 7) rfl rfl Try.func74 (by kernel_rfl) rfl #[.int .i64 a0_0, .int .i64 0, .int .i64 10] rfl ar_ ?_; (with_reducible refine (impl_InRange.calls a0_0 0 10 false _ A2.out).mono ?_); rintro e w' ⟨rfl, ⟨nd, rfl⟩⟩; refine ⟨_, rfl, ?_⟩))
  go_ret
  exact ⟨er_, hB_⟩
 subst c3
 rw [if_pos rfl] at H
 try dsimp only at H
 have H' := Aside0.mk H
 clear H
 go_enter Try.func24, Try.ntmps24
 go_wp2_with (first | ((with_reducible refine Zz (N := 1) rfl ?_); refine ZI ?hg (N := 1) ?hd (cs := #[.int .i64 a0_0, .slice A0_1 l0_1.length c0_1]) (t := 27) ?hr ?_; (case hd => rfl); (case hg => rfl); (case hr => first | (go_simp; done) | (go_simp; rfl)); intro gb309 hg w4 hbox hb; have BK309 := Aside0.mk (hbox); have GW309 := Aside0.mk ((hz_ hg : w.heap.size ≤ gb309)); have GE309 := Aside0.mk ((hz_ hg : w.heap.size ≤ gb309)); replace HB := Aside0.mk (Zc hB_ hb); clear hb hbox hg; obtain ⟨hcz5_0, hcz5_1, hfz5_0, hfz5_1⟩ := c2_ BK309.out) | ((with_reducible refine Zf (f := 74) rfl ?_); refine ZC (some 7) rfl rfl Try.func74 (by kernel_rfl) rfl #[.int .i64 a0_0, .int .i64 0, .int .i64 10] rfl ar_ ?_; (with_reducible refine (impl_InRange.calls a0_0 0 10 true _ A2.out).mono ?_); rintro e w' ⟨rfl, ⟨nd, rfl⟩⟩; refine ⟨_, rfl, ?_⟩))
 go_loopg [12] k (fun kq v12 w' => ∃ (x12_1 : Int), v12 = .int .i64 x12_1 ∧ Aside0 (impl_IsGraph.l0 kq l0_1 (l0_1.length : Int) x12_1 a0_0 l0_1 = some r) ∧ Aside0 (kq ≤ k) ∧ Aside0 (w'.heap[gb309]? = some (.cells #[.int .i64 a0_0, (.slice A0_1 l0_1.length c0_1)] 27 (0, 0))) ∧ Aside0 (Below w.heap.size w w'))
 case atStart => exact ⟨(0), sm_, H', ⟨Nat.le_refl _⟩, ⟨bk_ BK309.out⟩, ⟨hB_⟩⟩
 case round =>
  clear H'
  try clear c2
  try clear p2
  try clear c3
  try clear hcz5_0
  try clear hcz5_1
  try clear hfz5_0
  try clear hfz5_1
  obtain ⟨x12_1, rfl, HA, HK1, BK309, HB⟩ := hrel
  cases gk with
  | zero => exact absurd HA.out (by simp [impl_IsGraph.l0])
  | succ k1 =>
   have H := HA.out
   clear HA
   simp only [impl_IsGraph.l0] at H
   by_cases c6 : x12_1 < (l0_1.length : Int)
   rotate_left
   ·rw [if_neg c6] at H
    have c6b0 : decide (x12_1 < (l0_1.length : Int)) = false := decide_eq_false c6
    clear c6
    obtain rfl := Option.some.inj H
    go_wp2
    go_ret
    exact ⟨er_, hB_⟩
   rw [if_pos c6] at H
   have c6b0 : decide (x12_1 < (l0_1.length : Int)) = true := decide_eq_true c6
   clear c6
   by_cases c7 : 0 ≤ x12_1
   rotate_left
   ·rw [if_neg c7] at H
    exact absurd H (by simp)
   rw [if_pos c7] at H
   have c7b0 : decide (0 ≤ x12_1) = true := decide_eq_true c7
   clear c7
   by_cases c8 : x12_1 < (l0_1.length : Int)
   rotate_left
   ·rw [if_neg c8] at H
    exact absurd H (by simp)
   rw [if_pos c8] at H
   have c8b0 : decide (x12_1 < (l0_1.length : Int)) = true := decide_eq_true c8
   clear c8
   by_cases c9 : ((rd_L2 l0_1 x12_1).length : Int) = 2
   rotate_left
   ·rw [if_neg c9] at H
    have c9b0 : (((rd_L2 l0_1 x12_1).length : Int) == 2) = false := beq_eq_false_iff_ne.mpr c9
    have c9b1 : (((rd_L2 l0_1 x12_1).length : Int) != 2) = true := bne_iff_ne.mpr c9
    obtain rfl := Option.some.inj H
    have p311 : 0 ≤ (x12_1 : Int) := of_decide_eq_true as_
    have q311 : x12_1 < (l0_1.length : Int) := of_decide_eq_true as_
    obtain ⟨ad311, A311_0, c311_0, e311, hx311_0, hl311_0, hi311_0⟩ := at_L2 HR0_1.out x12_1 p311 q311
    cases e311
    replace hx311_0 := (HB.out.cell (World.block_lt_of_cell? w _ hx311_0)).trans hx311_0
    have HR311_0 := Aside0.mk hi311_0
    have HC311_0 := Aside0.mk hl311_0
    clear hi311_0 hl311_0
    replace p311 := eq_true p311
    replace q311 := eq_true q311
    try go_wp2
    replace BK309 := Aside0.mk (Zj BK309.out)
    replace HB := Aside0.mk (Zq HB.out)
    refine start_ (n := 34) (S := fun w' => True) (ds := []) (m_ 34 0) (by kernel_rfl) rfl rfl trivial (fun hHeld => ?_); refine with_tabW impl_IsGraph.tab6 impl_IsGraph.bits6 (fun HT_ HW_ => ?_)
    generalize wr.drew = w36 at BK309 HB hHeld ⊢
    refine pu_ 0 17 (m_ 34 1) ?_
    refine pu_ 1 18 (m_ 34 3) ?_
    refine pu_ 2 19 (m_ 34 7) ?_
    refine pu_ 3 20 (m_ 34 15) ?_
    refine pn_ 4 21 (m_ 34 31) ?_
    refine pn_ 5 22 (m_ 34 63) ?_
    refine pn_ 6 23 (m_ 34 127) ?_
    refine pn_ 7 24 (m_ 34 255) ?_
    refine pn_ 8 25 (m_ 34 511) ?_
    refine pn_ 9 26 (m_ 34 1023) ?_
    refine pu_ 10 27 (m_ 34 2047) ?_
    refine pu_ 11 28 (m_ 34 4095) ?_
    refine pn_ 12 29 (m_ 34 8191) ?_
    refine pn_ 13 30 (m_ 34 16383) ?_
    refine pn_ 14 31 (m_ 34 32767) ?_
    refine pn_ 15 32 (m_ 34 65535) ?_
    refine pn_ 16 33 (m_ 34 131071) ?_
    refine pn_ 17 34 (m_ 34 262143) ?_
    refine pu_ 18 35 (m_ 34 524287) ?_
    refine pu_ 19 36 (m_ 34 1048575) ?_
    refine pn_ 20 37 (m_ 34 2097151) ?_
    refine pn_ 21 38 (m_ 34 4194303) ?_
    refine pn_ 22 39 (m_ 34 8388607) ?_
    refine pn_ 23 40 (m_ 34 16777215) ?_
    refine pn_ 24 41 (m_ 34 33554431) ?_
    refine pn_ 25 42 (m_ 34 67108863) ?_
    refine pn_ 26 43 (m_ 34 134217727) ?_
    refine pn_ 27 44 (m_ 34 268435455) ?_
    refine pn_ 28 45 (m_ 34 536870911) ?_
    refine pn_ 29 46 (m_ 34 1073741823) ?_
    refine pn_ 30 47 (m_ 34 2147483647) ?_
    refine pn_ 31 48 (m_ 34 4294967295) ?_
    refine pn_ 32 49 (m_ 34 8589934591) ?_
    refine pu_ 33 50 (m_ 34 17179869183) ?_
    refine done_ (done_of HT_.out (by kernel_rfl)) ?_
    try go_wp2
    go_ret
    exact ⟨er_, hB_⟩
   rw [if_pos c9] at H
   have c9b0 : (((rd_L2 l0_1 x12_1).length : Int) == 2) = true := beq_iff_eq.mpr c9
   have c9b1 : (((rd_L2 l0_1 x12_1).length : Int) != 2) = false := bne_eq_false_iff_eq.mpr c9
   clear c9
   by_cases c10 : 0 < ((rd_L2 l0_1 x12_1).length : Int)
   rotate_left
   ·rw [if_neg c10] at H
    exact absurd H (by simp)
   rw [if_pos c10] at H
   have c10b0 : decide (0 < ((rd_L2 l0_1 x12_1).length : Int)) = true := decide_eq_true c10
   have c10b1 : decide (0 < (rd_L2 l0_1 x12_1).length) = true := decide_eq_true (by omega)
   clear c10
   obtain ⟨t313, A11, H⟩ := bd_ H
   try dsimp only at H
   by_cases c12 : t313 = true
   rotate_left
   ·replace c12 := Bool.eq_false_iff.mpr c12
    subst c12
    rw [if_neg (show ¬ (false = true) by decide)] at H
    try dsimp only at H
    obtain rfl := Option.some.inj H
    have p311 : 0 ≤ (x12_1 : Int) := of_decide_eq_true as_
    have q311 : x12_1 < (l0_1.length : Int) := of_decide_eq_true as_
    obtain ⟨ad311, A311_0, c311_0, e311, hx311_0, hl311_0, hi311_0⟩ := at_L2 HR0_1.out x12_1 p311 q311
    cases e311
    replace hx311_0 := (HB.out.cell (World.block_lt_of_cell? w _ hx311_0)).trans hx311_0
    have HR311_0 := Aside0.mk hi311_0
    have HC311_0 := Aside0.mk hl311_0
    clear hi311_0 hl311_0
    replace p311 := eq_true p311
    replace q311 := eq_true q311
    try go_wp2
    replace BK309 := Aside0.mk (Zj BK309.out)
    replace HB := Aside0.mk (Zq HB.out)
    have p312 : 0 ≤ (0 : Int) := (by omega)
    have q312 : 0 < ((rd_L2 l0_1 x12_1).length : Int) := of_decide_eq_true as_
    obtain ⟨ad312, e312, hx312_0⟩ := Zo HR311_0.out 0 p312 q312
    have hw312_0 := hx312_0
    (try rw [show ((0 : Int)).toNat = 0 from rfl] at hw312_0)
    (try rw [show 0 * 1 = 0 from rfl] at hw312_0)
    (try rw [Addr.add_zero'] at hw312_0)
    cases e312
    have qi312 : (0 < (rd_L2 l0_1 x12_1).length) = True := eq_true (by omega)
    (try rw [show ((0 : Int)).toNat = 0 from rfl] at hx312_0)
    (try rw [Addr.add_zero'] at hx312_0)
    replace hx312_0 := (HB.out.cell (World.block_lt_of_cell? w _ hx312_0)).trans hx312_0
    replace p312 := eq_true p312
    replace q312 := eq_true q312
    refine start_ (n := 34) (S := fun w' => w'.cell? ⟨gb309, 0, none⟩ = some (.int .i64 a0_0) ∧ w'.cell? ⟨gb309, 1, none⟩ = some (.slice (some ad311) l0_1.length c0_1) ∧ w'.cell? ad312 = some (.int .i64 (rd (rd_L2 l0_1 x12_1) 0))) (ds := []) (m_ 34 0) (by kernel_rfl) rfl rfl ⟨(Za BK309.out 0).trans rfl, (Za BK309.out 1).trans rfl, ((HB.out.cell (World.block_lt_of_cell? w _ hw312_0)).trans hw312_0)⟩ (fun hHeld => ?_); refine with_tabW impl_IsGraph.tab6 impl_IsGraph.bits6 (fun HT_ HW_ => ?_)
    generalize wr.drew = w34 at BK309 HB hx312_0 hHeld ⊢
    refine pu_ 0 17 (m_ 34 1) ?_
    refine pu_ 1 18 (m_ 34 3) ?_
    refine pu_ 2 19 (m_ 34 7) ?_
    refine pu_ 3 20 (m_ 34 15) ?_
    refine pu_ 5 22 (m_ 34 47) ?_
    refine pu_ 6 23 (m_ 34 111) ?_
    refine tk3_ 4 21 (m_ 34 127) hHeld ?_
    refine tk3_ 7 24 (m_ 34 255) hHeld ?_
    refine on_ 8 25 (m_ 34 511) (fun K hK => ?_)
    refine goes_ Try.func61 (by kernel_rfl) rfl #[.agg #[.int .i64 a0_0, .slice (some ad311) l0_1.length c0_1], .int .i64 (rd (rd_L2 l0_1 x12_1) 0)] (by rfl) rfl rfl ar_ ?_
    with_reducible refine (impl_isClaim.calls a0_0 _ _ l0_1 (rd (rd_L2 l0_1 x12_1) 0) false _ ?side1 ?side2 A11.out).mono ?_
    (case side1 => exact cb_ HR0_1.out)
    (case side2 => exact HC0_1.out)
    rintro e w35 ⟨rfl, hb⟩
    refine ⟨_, rfl, ?_⟩
    replace BK309 := Aside0.mk (Zd (bq_ BK309.out) hb)
    replace HB := Aside0.mk (Zc hB_ hb)
    (try clear hb)
    (try clear hb2)
    (try clear hk)
    (try clear hi)
    refine hK.out _ _ ⟨(Za BK309.out 0).trans rfl, (Za BK309.out 1).trans rfl, ((HB.out.cell (World.block_lt_of_cell? w _ hw312_0)).trans hw312_0)⟩ (fun hHeld => ?_)
    clear hK K
    refine no_ 25 ?_
    refine pu_ 9 26 (m_ 34 1023) ?_
    refine pu_ 10 27 (m_ 34 2047) ?_
    refine pu_ 11 28 (m_ 34 4095) ?_
    refine pn_ 12 29 (m_ 34 8191) ?_
    refine pn_ 13 30 (m_ 34 16383) ?_
    refine pn_ 14 31 (m_ 34 32767) ?_
    refine pn_ 15 32 (m_ 34 65535) ?_
    refine pn_ 16 33 (m_ 34 131071) ?_
    refine pn_ 17 34 (m_ 34 262143) ?_
    refine pu_ 18 35 (m_ 34 524287) ?_
    refine pu_ 19 36 (m_ 34 1048575) ?_
    refine pn_ 20 37 (m_ 34 2097151) ?_
    refine pn_ 21 38 (m_ 34 4194303) ?_
    refine pn_ 22 39 (m_ 34 8388607) ?_
    refine pn_ 23 40 (m_ 34 16777215) ?_
    refine pn_ 24 41 (m_ 34 33554431) ?_
    refine pn_ 25 42 (m_ 34 67108863) ?_
    refine pn_ 26 43 (m_ 34 134217727) ?_
    refine pn_ 27 44 (m_ 34 268435455) ?_
    refine pn_ 28 45 (m_ 34 536870911) ?_
    refine pn_ 29 46 (m_ 34 1073741823) ?_
    refine pn_ 30 47 (m_ 34 2147483647) ?_
    refine pn_ 31 48 (m_ 34 4294967295) ?_
    refine pn_ 32 49 (m_ 34 8589934591) ?_
    refine pu_ 33 50 (m_ 34 17179869183) ?_
    refine done_ (done_of HT_.out (by kernel_rfl)) ?_
    try go_wp2
    go_ret
    exact ⟨er_, hB_⟩
   subst c12
   rw [if_pos rfl] at H
   try dsimp only at H
   by_cases c13 : 1 < ((rd_L2 l0_1 x12_1).length : Int)
   rotate_left
   ·rw [if_neg c13] at H
    exact absurd H (by simp)
   rw [if_pos c13] at H
   have c13b0 : decide (1 < ((rd_L2 l0_1 x12_1).length : Int)) = true := decide_eq_true c13
   have c13b1 : decide (1 < (rd_L2 l0_1 x12_1).length) = true := decide_eq_true (by omega)
   clear c13
   obtain ⟨t315, A14, H⟩ := bd_ H
   try dsimp only at H
   by_cases c15 : t315 = true
   rotate_left
   ·replace c15 := Bool.eq_false_iff.mpr c15
    subst c15
    rw [if_neg (show ¬ (false = true) by decide)] at H
    try dsimp only at H
    obtain rfl := Option.some.inj H
    have p311 : 0 ≤ (x12_1 : Int) := of_decide_eq_true as_
    have q311 : x12_1 < (l0_1.length : Int) := of_decide_eq_true as_
    obtain ⟨ad311, A311_0, c311_0, e311, hx311_0, hl311_0, hi311_0⟩ := at_L2 HR0_1.out x12_1 p311 q311
    cases e311
    replace hx311_0 := (HB.out.cell (World.block_lt_of_cell? w _ hx311_0)).trans hx311_0
    have HR311_0 := Aside0.mk hi311_0
    have HC311_0 := Aside0.mk hl311_0
    clear hi311_0 hl311_0
    replace p311 := eq_true p311
    replace q311 := eq_true q311
    try go_wp2
    replace BK309 := Aside0.mk (Zj BK309.out)
    replace HB := Aside0.mk (Zq HB.out)
    have p312 : 0 ≤ (0 : Int) := (by omega)
    have q312 : 0 < ((rd_L2 l0_1 x12_1).length : Int) := of_decide_eq_true as_
    obtain ⟨ad312, e312, hx312_0⟩ := Zo HR311_0.out 0 p312 q312
    have hw312_0 := hx312_0
    (try rw [show ((0 : Int)).toNat = 0 from rfl] at hw312_0)
    (try rw [show 0 * 1 = 0 from rfl] at hw312_0)
    (try rw [Addr.add_zero'] at hw312_0)
    cases e312
    have qi312 : (0 < (rd_L2 l0_1 x12_1).length) = True := eq_true (by omega)
    (try rw [show ((0 : Int)).toNat = 0 from rfl] at hx312_0)
    (try rw [Addr.add_zero'] at hx312_0)
    replace hx312_0 := (HB.out.cell (World.block_lt_of_cell? w _ hx312_0)).trans hx312_0
    replace p312 := eq_true p312
    replace q312 := eq_true q312
    have p314 : 0 ≤ (1 : Int) := (by omega)
    have q314 : 1 < ((rd_L2 l0_1 x12_1).length : Int) := of_decide_eq_true as_
    obtain ⟨ad314, e314, hx314_0⟩ := Zo HR311_0.out 1 p314 q314
    have hw314_0 := hx314_0
    (try rw [show ((1 : Int)).toNat = 1 from rfl] at hw314_0)
    (try rw [show 1 * 1 = 1 from rfl] at hw314_0)
    (try simp only [Nat.reduceMul, Nat.reduceEqDiff, Go.Addr.add, ↓reduceIte] at hw314_0)
    obtain rfl : ad312 = ad314 := (by injection e314)
    (try simp only [show (1 : Int).toNat = 1 from rfl, Nat.reduceMul, Nat.reduceEqDiff, Go.Addr.add, ↓reduceIte] at hx314_0)
    have qi314 : (1 < (rd_L2 l0_1 x12_1).length) = True := eq_true (by omega)
    (try rw [show ((1 : Int)).toNat = 1 from rfl] at hx314_0)
    replace hx314_0 := (HB.out.cell (World.block_lt_of_cell? w _ hx314_0)).trans hx314_0
    replace p314 := eq_true p314
    replace q314 := eq_true q314
    refine start_ (n := 34) (S := fun w' => w'.cell? ⟨gb309, 0, none⟩ = some (.int .i64 a0_0) ∧ w'.cell? ⟨gb309, 1, none⟩ = some (.slice (some ad311) l0_1.length c0_1) ∧ w'.cell? ad312 = some (.int .i64 (rd (rd_L2 l0_1 x12_1) 0)) ∧ w'.cell? ⟨ad312.block, ad312.off + 1, none⟩ = some (.int .i64 (rd (rd_L2 l0_1 x12_1) 1))) (ds := []) (m_ 34 0) (by kernel_rfl) rfl rfl ⟨(Za BK309.out 0).trans rfl, (Za BK309.out 1).trans rfl, ((HB.out.cell (World.block_lt_of_cell? w _ hw312_0)).trans hw312_0), ((HB.out.cell (World.block_lt_of_cell? w _ hw314_0)).trans hw314_0)⟩ (fun hHeld => ?_); refine with_tabW impl_IsGraph.tab6 impl_IsGraph.bits6 (fun HT_ HW_ => ?_)
    generalize wr.drew = w31 at BK309 HB hx312_0 hx314_0 hHeld ⊢
    refine pu_ 0 17 (m_ 34 1) ?_
    refine pu_ 1 18 (m_ 34 3) ?_
    refine pu_ 2 19 (m_ 34 7) ?_
    refine pu_ 3 20 (m_ 34 15) ?_
    refine pu_ 5 22 (m_ 34 47) ?_
    refine pu_ 6 23 (m_ 34 111) ?_
    refine tk4_ 4 21 (m_ 34 127) hHeld ?_
    refine tk4_ 7 24 (m_ 34 255) hHeld ?_
    refine on_ 8 25 (m_ 34 511) (fun K hK => ?_)
    refine goes_ Try.func61 (by kernel_rfl) rfl #[.agg #[.int .i64 a0_0, .slice (some ad311) l0_1.length c0_1], .int .i64 (rd (rd_L2 l0_1 x12_1) 0)] (by rfl) rfl rfl ar_ ?_
    with_reducible refine (impl_isClaim.calls a0_0 _ _ l0_1 (rd (rd_L2 l0_1 x12_1) 0) true _ ?side1 ?side2 A11.out).mono ?_
    (case side1 => exact cb_ HR0_1.out)
    (case side2 => exact HC0_1.out)
    rintro e w32 ⟨rfl, hb⟩
    refine ⟨_, rfl, ?_⟩
    replace BK309 := Aside0.mk (Zd (bq_ BK309.out) hb)
    replace HB := Aside0.mk (Zc hB_ hb)
    (try clear hb)
    (try clear hb2)
    (try clear hk)
    (try clear hi)
    refine hK.out _ _ ⟨(Za BK309.out 0).trans rfl, (Za BK309.out 1).trans rfl, ((HB.out.cell (World.block_lt_of_cell? w _ hw312_0)).trans hw312_0), ((HB.out.cell (World.block_lt_of_cell? w _ hw314_0)).trans hw314_0)⟩ (fun hHeld => ?_)
    clear hK K
    refine no_ 25 ?_
    refine pu_ 9 26 (m_ 34 1023) ?_
    refine pu_ 10 27 (m_ 34 2047) ?_
    refine pu_ 11 28 (m_ 34 4095) ?_
    refine pu_ 13 30 (m_ 34 12287) ?_
    refine pu_ 14 31 (m_ 34 28671) ?_
    refine tk4_ 12 29 (m_ 34 32767) hHeld ?_
    refine tk4_ 15 32 (m_ 34 65535) hHeld ?_
    refine on_ 16 33 (m_ 34 131071) (fun K hK => ?_)
    refine goes_ Try.func61 (by kernel_rfl) rfl #[.agg #[.int .i64 a0_0, .slice (some ad311) l0_1.length c0_1], .int .i64 (rd (rd_L2 l0_1 x12_1) 1)] (by rfl) rfl rfl ar_ ?_
    with_reducible refine (impl_isClaim.calls a0_0 _ _ l0_1 (rd (rd_L2 l0_1 x12_1) 1) false _ ?side1 ?side2 A14.out).mono ?_
    (case side1 => exact cb_ HR0_1.out)
    (case side2 => exact HC0_1.out)
    rintro e w33 ⟨rfl, hb⟩
    refine ⟨_, rfl, ?_⟩
    replace BK309 := Aside0.mk (Zd (bq_ BK309.out) hb)
    replace HB := Aside0.mk (Zc hB_ hb)
    (try clear hb)
    (try clear hb2)
    (try clear hk)
    (try clear hi)
    refine hK.out _ _ ⟨(Za BK309.out 0).trans rfl, (Za BK309.out 1).trans rfl, ((HB.out.cell (World.block_lt_of_cell? w _ hw312_0)).trans hw312_0), ((HB.out.cell (World.block_lt_of_cell? w _ hw314_0)).trans hw314_0)⟩ (fun hHeld => ?_)
    clear hK K
    refine no_ 33 ?_
    refine pu_ 17 34 (m_ 34 262143) ?_
    refine pu_ 18 35 (m_ 34 524287) ?_
    refine pu_ 19 36 (m_ 34 1048575) ?_
    refine pn_ 20 37 (m_ 34 2097151) ?_
    refine pn_ 21 38 (m_ 34 4194303) ?_
    refine pn_ 22 39 (m_ 34 8388607) ?_
    refine pn_ 23 40 (m_ 34 16777215) ?_
    refine pn_ 24 41 (m_ 34 33554431) ?_
    refine pn_ 25 42 (m_ 34 67108863) ?_
    refine pn_ 26 43 (m_ 34 134217727) ?_
    refine pn_ 27 44 (m_ 34 268435455) ?_
    refine pn_ 28 45 (m_ 34 536870911) ?_
    refine pn_ 29 46 (m_ 34 1073741823) ?_
    refine pn_ 30 47 (m_ 34 2147483647) ?_
    refine pn_ 31 48 (m_ 34 4294967295) ?_
    refine pn_ 32 49 (m_ 34 8589934591) ?_
    refine pu_ 33 50 (m_ 34 17179869183) ?_
    refine done_ (done_of HT_.out (by kernel_rfl)) ?_
    try go_wp2
    go_ret
    exact ⟨er_, hB_⟩
   subst c15
   rw [if_pos rfl] at H
   try dsimp only at H
   by_cases c16 : x12_1 > 0
   rotate_left
   ·rw [if_neg c16] at H
    have c16b0 : decide (0 < x12_1) = false := decide_eq_false c16
    clear c16
    have H' := Aside0.mk H
    clear H
    have p311 : 0 ≤ (x12_1 : Int) := of_decide_eq_true as_
    have q311 : x12_1 < (l0_1.length : Int) := of_decide_eq_true as_
    obtain ⟨ad311, A311_0, c311_0, e311, hx311_0, hl311_0, hi311_0⟩ := at_L2 HR0_1.out x12_1 p311 q311
    cases e311
    replace hx311_0 := (HB.out.cell (World.block_lt_of_cell? w _ hx311_0)).trans hx311_0
    have HR311_0 := Aside0.mk hi311_0
    have HC311_0 := Aside0.mk hl311_0
    clear hi311_0 hl311_0
    replace p311 := eq_true p311
    replace q311 := eq_true q311
    try go_wp2
    replace BK309 := Aside0.mk (Zj BK309.out)
    replace HB := Aside0.mk (Zq HB.out)
    have p312 : 0 ≤ (0 : Int) := (by omega)
    have q312 : 0 < ((rd_L2 l0_1 x12_1).length : Int) := of_decide_eq_true as_
    obtain ⟨ad312, e312, hx312_0⟩ := Zo HR311_0.out 0 p312 q312
    have hw312_0 := hx312_0
    (try rw [show ((0 : Int)).toNat = 0 from rfl] at hw312_0)
    (try rw [show 0 * 1 = 0 from rfl] at hw312_0)
    (try rw [Addr.add_zero'] at hw312_0)
    cases e312
    have qi312 : (0 < (rd_L2 l0_1 x12_1).length) = True := eq_true (by omega)
    (try rw [show ((0 : Int)).toNat = 0 from rfl] at hx312_0)
    (try rw [Addr.add_zero'] at hx312_0)
    replace hx312_0 := (HB.out.cell (World.block_lt_of_cell? w _ hx312_0)).trans hx312_0
    replace p312 := eq_true p312
    replace q312 := eq_true q312
    have p314 : 0 ≤ (1 : Int) := (by omega)
    have q314 : 1 < ((rd_L2 l0_1 x12_1).length : Int) := of_decide_eq_true as_
    obtain ⟨ad314, e314, hx314_0⟩ := Zo HR311_0.out 1 p314 q314
    have hw314_0 := hx314_0
    (try rw [show ((1 : Int)).toNat = 1 from rfl] at hw314_0)
    (try rw [show 1 * 1 = 1 from rfl] at hw314_0)
    (try simp only [Nat.reduceMul, Nat.reduceEqDiff, Go.Addr.add, ↓reduceIte] at hw314_0)
    obtain rfl : ad312 = ad314 := (by injection e314)
    (try simp only [show (1 : Int).toNat = 1 from rfl, Nat.reduceMul, Nat.reduceEqDiff, Go.Addr.add, ↓reduceIte] at hx314_0)
    have qi314 : (1 < (rd_L2 l0_1 x12_1).length) = True := eq_true (by omega)
    (try rw [show ((1 : Int)).toNat = 1 from rfl] at hx314_0)
    replace hx314_0 := (HB.out.cell (World.block_lt_of_cell? w _ hx314_0)).trans hx314_0
    replace p314 := eq_true p314
    replace q314 := eq_true q314
    refine start_ (n := 34) (S := fun w' => w'.cell? ⟨gb309, 0, none⟩ = some (.int .i64 a0_0) ∧ w'.cell? ⟨gb309, 1, none⟩ = some (.slice (some ad311) l0_1.length c0_1) ∧ w'.cell? ad312 = some (.int .i64 (rd (rd_L2 l0_1 x12_1) 0)) ∧ w'.cell? ⟨ad312.block, ad312.off + 1, none⟩ = some (.int .i64 (rd (rd_L2 l0_1 x12_1) 1))) (ds := []) (m_ 34 0) (by kernel_rfl) rfl rfl ⟨(Za BK309.out 0).trans rfl, (Za BK309.out 1).trans rfl, ((HB.out.cell (World.block_lt_of_cell? w _ hw312_0)).trans hw312_0), ((HB.out.cell (World.block_lt_of_cell? w _ hw314_0)).trans hw314_0)⟩ (fun hHeld => ?_); refine with_tabW impl_IsGraph.tab6 impl_IsGraph.bits6 (fun HT_ HW_ => ?_)
    generalize wr.drew = w28 at BK309 HB hx312_0 hx314_0 hHeld ⊢
    refine pu_ 0 17 (m_ 34 1) ?_
    refine pu_ 1 18 (m_ 34 3) ?_
    refine pu_ 2 19 (m_ 34 7) ?_
    refine pu_ 3 20 (m_ 34 15) ?_
    refine pu_ 5 22 (m_ 34 47) ?_
    refine pu_ 6 23 (m_ 34 111) ?_
    refine tk4_ 4 21 (m_ 34 127) hHeld ?_
    refine tk4_ 7 24 (m_ 34 255) hHeld ?_
    refine on_ 8 25 (m_ 34 511) (fun K hK => ?_)
    refine goes_ Try.func61 (by kernel_rfl) rfl #[.agg #[.int .i64 a0_0, .slice (some ad311) l0_1.length c0_1], .int .i64 (rd (rd_L2 l0_1 x12_1) 0)] (by rfl) rfl rfl ar_ ?_
    with_reducible refine (impl_isClaim.calls a0_0 _ _ l0_1 (rd (rd_L2 l0_1 x12_1) 0) true _ ?side1 ?side2 A11.out).mono ?_
    (case side1 => exact cb_ HR0_1.out)
    (case side2 => exact HC0_1.out)
    rintro e w29 ⟨rfl, hb⟩
    refine ⟨_, rfl, ?_⟩
    replace BK309 := Aside0.mk (Zd (bq_ BK309.out) hb)
    replace HB := Aside0.mk (Zc hB_ hb)
    (try clear hb)
    (try clear hb2)
    (try clear hk)
    (try clear hi)
    refine hK.out _ _ ⟨(Za BK309.out 0).trans rfl, (Za BK309.out 1).trans rfl, ((HB.out.cell (World.block_lt_of_cell? w _ hw312_0)).trans hw312_0), ((HB.out.cell (World.block_lt_of_cell? w _ hw314_0)).trans hw314_0)⟩ (fun hHeld => ?_)
    clear hK K
    refine no_ 25 ?_
    refine pu_ 9 26 (m_ 34 1023) ?_
    refine pu_ 10 27 (m_ 34 2047) ?_
    refine pu_ 11 28 (m_ 34 4095) ?_
    refine pu_ 13 30 (m_ 34 12287) ?_
    refine pu_ 14 31 (m_ 34 28671) ?_
    refine tk4_ 12 29 (m_ 34 32767) hHeld ?_
    refine tk4_ 15 32 (m_ 34 65535) hHeld ?_
    refine on_ 16 33 (m_ 34 131071) (fun K hK => ?_)
    refine goes_ Try.func61 (by kernel_rfl) rfl #[.agg #[.int .i64 a0_0, .slice (some ad311) l0_1.length c0_1], .int .i64 (rd (rd_L2 l0_1 x12_1) 1)] (by rfl) rfl rfl ar_ ?_
    with_reducible refine (impl_isClaim.calls a0_0 _ _ l0_1 (rd (rd_L2 l0_1 x12_1) 1) true _ ?side1 ?side2 A14.out).mono ?_
    (case side1 => exact cb_ HR0_1.out)
    (case side2 => exact HC0_1.out)
    rintro e w30 ⟨rfl, hb⟩
    refine ⟨_, rfl, ?_⟩
    replace BK309 := Aside0.mk (Zd (bq_ BK309.out) hb)
    replace HB := Aside0.mk (Zc hB_ hb)
    (try clear hb)
    (try clear hb2)
    (try clear hk)
    (try clear hi)
    refine hK.out _ _ ⟨(Za BK309.out 0).trans rfl, (Za BK309.out 1).trans rfl, ((HB.out.cell (World.block_lt_of_cell? w _ hw312_0)).trans hw312_0), ((HB.out.cell (World.block_lt_of_cell? w _ hw314_0)).trans hw314_0)⟩ (fun hHeld => ?_)
    clear hK K
    refine no_ 33 ?_
    refine pu_ 17 34 (m_ 34 262143) ?_
    refine pu_ 18 35 (m_ 34 524287) ?_
    refine pu_ 19 36 (m_ 34 1048575) ?_
    refine pu_ 20 37 (m_ 34 2097151) ?_
    refine pu_ 21 38 (m_ 34 4194303) ?_
    refine pu_ 22 39 (m_ 34 8388607) ?_
    refine pn_ 23 40 (m_ 34 16777215) ?_
    refine pn_ 24 41 (m_ 34 33554431) ?_
    refine pn_ 25 42 (m_ 34 67108863) ?_
    refine pn_ 26 43 (m_ 34 134217727) ?_
    refine pn_ 27 44 (m_ 34 268435455) ?_
    refine pn_ 28 45 (m_ 34 536870911) ?_
    refine pn_ 29 46 (m_ 34 1073741823) ?_
    refine pn_ 30 47 (m_ 34 2147483647) ?_
    refine pn_ 31 48 (m_ 34 4294967295) ?_
    refine pu_ 32 49 (m_ 34 8589934591) ?_
    refine pu_ 33 50 (m_ 34 17179869183) ?_
    refine done_ (done_of HT_.out (by kernel_rfl)) ?_
    try go_wp2
    go_roundg k1
    case measure => have := HK1.out; omega
    case rel => exact ⟨(wrap64 (x12_1 + 1)), sm_, H', ⟨by have := HK1.out; omega⟩, ⟨bk_ BK309.out⟩, ⟨hB_⟩⟩
   rw [if_pos c16] at H
   have c16b0 : decide (0 < x12_1) = true := decide_eq_true c16
   clear c16
   obtain ⟨ji17, hji17⟩ : ∃ j_ : Int, (wrap64 (x12_1 - 1)) = j_ := ⟨_, rfl⟩
   replace H : (if 0 ≤ (ji17) then (if (ji17) < (l0_1.length : Int) then ((slices_Compare_int_int.f k1 (rd_L2 l0_1 (ji17)) (rd_L2 l0_1 x12_1)).bind fun t317 => (if t317 ≥ 0 then (some false) else (impl_IsGraph.l0 k1 l0_1 (l0_1.length : Int) (wrap64 (x12_1 + 1)) a0_0 l0_1))) else (none)) else (none)) = some r := by first | (rw [hji17] at H; exact H) | (simp only [hji17] at H ⊢; exact H)
   (try rw [hji17] at A11)
   (try rw [hji17] at A14)
   have hji17w : (IntKind.i64.wrap (x12_1 - 1)) = ji17 := (i64_w _).trans hji17
   by_cases c18 : 0 ≤ (ji17)
   rotate_left
   ·rw [if_neg c18] at H
    exact absurd H (by simp)
   rw [if_pos c18] at H
   have c18b0 : decide (0 ≤ (ji17)) = true := decide_eq_true c18
   clear c18
   by_cases c19 : (ji17) < (l0_1.length : Int)
   rotate_left
   ·rw [if_neg c19] at H
    exact absurd H (by simp)
   rw [if_pos c19] at H
   have c19b0 : decide ((ji17) < (l0_1.length : Int)) = true := decide_eq_true c19
   clear c19
   obtain ⟨t317, A20, H⟩ := bd_ H
   try dsimp only at H
   by_cases c21 : t317 ≥ 0
   ·rw [if_pos c21] at H
    have c21b0 : decide (0 ≤ t317) = true := decide_eq_true c21
    clear c21
    obtain rfl := Option.some.inj H
    have p311 : 0 ≤ (x12_1 : Int) := of_decide_eq_true as_
    have q311 : x12_1 < (l0_1.length : Int) := of_decide_eq_true as_
    obtain ⟨ad311, A311_0, c311_0, e311, hx311_0, hl311_0, hi311_0⟩ := at_L2 HR0_1.out x12_1 p311 q311
    cases e311
    replace hx311_0 := (HB.out.cell (World.block_lt_of_cell? w _ hx311_0)).trans hx311_0
    have HR311_0 := Aside0.mk hi311_0
    have HC311_0 := Aside0.mk hl311_0
    clear hi311_0 hl311_0
    replace p311 := eq_true p311
    replace q311 := eq_true q311
    try go_wp2
    replace BK309 := Aside0.mk (Zj BK309.out)
    replace HB := Aside0.mk (Zq HB.out)
    have p312 : 0 ≤ (0 : Int) := (by omega)
    have q312 : 0 < ((rd_L2 l0_1 x12_1).length : Int) := of_decide_eq_true as_
    obtain ⟨ad312, e312, hx312_0⟩ := Zo HR311_0.out 0 p312 q312
    have hw312_0 := hx312_0
    (try rw [show ((0 : Int)).toNat = 0 from rfl] at hw312_0)
    (try rw [show 0 * 1 = 0 from rfl] at hw312_0)
    (try rw [Addr.add_zero'] at hw312_0)
    cases e312
    have qi312 : (0 < (rd_L2 l0_1 x12_1).length) = True := eq_true (by omega)
    (try rw [show ((0 : Int)).toNat = 0 from rfl] at hx312_0)
    (try rw [Addr.add_zero'] at hx312_0)
    replace hx312_0 := (HB.out.cell (World.block_lt_of_cell? w _ hx312_0)).trans hx312_0
    replace p312 := eq_true p312
    replace q312 := eq_true q312
    have p314 : 0 ≤ (1 : Int) := (by omega)
    have q314 : 1 < ((rd_L2 l0_1 x12_1).length : Int) := of_decide_eq_true as_
    obtain ⟨ad314, e314, hx314_0⟩ := Zo HR311_0.out 1 p314 q314
    have hw314_0 := hx314_0
    (try rw [show ((1 : Int)).toNat = 1 from rfl] at hw314_0)
    (try rw [show 1 * 1 = 1 from rfl] at hw314_0)
    (try simp only [Nat.reduceMul, Nat.reduceEqDiff, Go.Addr.add, ↓reduceIte] at hw314_0)
    obtain rfl : ad312 = ad314 := (by injection e314)
    (try simp only [show (1 : Int).toNat = 1 from rfl, Nat.reduceMul, Nat.reduceEqDiff, Go.Addr.add, ↓reduceIte] at hx314_0)
    have qi314 : (1 < (rd_L2 l0_1 x12_1).length) = True := eq_true (by omega)
    (try rw [show ((1 : Int)).toNat = 1 from rfl] at hx314_0)
    replace hx314_0 := (HB.out.cell (World.block_lt_of_cell? w _ hx314_0)).trans hx314_0
    replace p314 := eq_true p314
    replace q314 := eq_true q314
    have p316 : 0 ≤ ((ji17) : Int) := of_decide_eq_true as_
    have q316 : (ji17) < (l0_1.length : Int) := of_decide_eq_true as_
    obtain ⟨ad316, A316_0, c316_0, e316, hx316_0, hl316_0, hi316_0⟩ := at_L2 HR0_1.out (ji17) p316 q316
    have hw316_0 := hx316_0
    obtain rfl : ad311 = ad316 := (by injection e316)
    replace hx316_0 := (HB.out.cell (World.block_lt_of_cell? w _ hx316_0)).trans hx316_0
    have HR316_0 := Aside0.mk hi316_0
    have HC316_0 := Aside0.mk hl316_0
    clear hi316_0 hl316_0
    replace p316 := eq_true p316
    replace q316 := eq_true q316
    refine start_ (n := 34) (S := fun w' => w'.cell? ⟨gb309, 0, none⟩ = some (.int .i64 a0_0) ∧ w'.cell? ⟨gb309, 1, none⟩ = some (.slice (some ad311) l0_1.length c0_1) ∧ w'.cell? ad312 = some (.int .i64 (rd (rd_L2 l0_1 x12_1) 0)) ∧ w'.cell? ⟨ad312.block, ad312.off + 1, none⟩ = some (.int .i64 (rd (rd_L2 l0_1 x12_1) 1)) ∧ w'.cell? (ad311.add ((ji17)).toNat) = some (.slice A316_0 (rd_L2 l0_1 (ji17)).length c316_0)) (ds := []) (m_ 34 0) (by kernel_rfl) rfl rfl ⟨(Za BK309.out 0).trans rfl, (Za BK309.out 1).trans rfl, ((HB.out.cell (World.block_lt_of_cell? w _ hw312_0)).trans hw312_0), ((HB.out.cell (World.block_lt_of_cell? w _ hw314_0)).trans hw314_0), ((HB.out.cell (World.block_lt_of_cell? w _ hw316_0)).trans hw316_0)⟩ (fun hHeld => ?_); refine with_tabW impl_IsGraph.tab6 impl_IsGraph.bits6 (fun HT_ HW_ => ?_)
    generalize wr.drew = w22 at BK309 HB HR316_0 hx312_0 hx314_0 hx316_0 hHeld ⊢
    refine pu_ 0 17 (m_ 34 1) ?_
    refine pu_ 1 18 (m_ 34 3) ?_
    refine pu_ 2 19 (m_ 34 7) ?_
    refine pu_ 3 20 (m_ 34 15) ?_
    refine pu_ 5 22 (m_ 34 47) ?_
    refine pu_ 6 23 (m_ 34 111) ?_
    refine tk5_ 4 21 (m_ 34 127) hHeld ?_
    refine tk5_ 7 24 (m_ 34 255) hHeld ?_
    refine on_ 8 25 (m_ 34 511) (fun K hK => ?_)
    refine goes_ Try.func61 (by kernel_rfl) rfl #[.agg #[.int .i64 a0_0, .slice (some ad311) l0_1.length c0_1], .int .i64 (rd (rd_L2 l0_1 x12_1) 0)] (by rfl) rfl rfl ar_ ?_
    with_reducible refine (impl_isClaim.calls a0_0 _ _ l0_1 (rd (rd_L2 l0_1 x12_1) 0) true _ ?side1 ?side2 A11.out).mono ?_
    (case side1 => exact cb_ HR0_1.out)
    (case side2 => exact HC0_1.out)
    rintro e w23 ⟨rfl, hb⟩
    refine ⟨_, rfl, ?_⟩
    replace BK309 := Aside0.mk (Zd (bq_ BK309.out) hb)
    replace HB := Aside0.mk (Zc hB_ hb)
    (try clear hb)
    (try clear hb2)
    (try clear hk)
    (try clear hi)
    refine hK.out _ _ ⟨(Za BK309.out 0).trans rfl, (Za BK309.out 1).trans rfl, ((HB.out.cell (World.block_lt_of_cell? w _ hw312_0)).trans hw312_0), ((HB.out.cell (World.block_lt_of_cell? w _ hw314_0)).trans hw314_0), ((HB.out.cell (World.block_lt_of_cell? w _ hw316_0)).trans hw316_0)⟩ (fun hHeld => ?_)
    clear hK K
    refine no_ 25 ?_
    refine pu_ 9 26 (m_ 34 1023) ?_
    refine pu_ 10 27 (m_ 34 2047) ?_
    refine pu_ 11 28 (m_ 34 4095) ?_
    refine pu_ 13 30 (m_ 34 12287) ?_
    refine pu_ 14 31 (m_ 34 28671) ?_
    refine tk5_ 12 29 (m_ 34 32767) hHeld ?_
    refine tk5_ 15 32 (m_ 34 65535) hHeld ?_
    refine on_ 16 33 (m_ 34 131071) (fun K hK => ?_)
    refine goes_ Try.func61 (by kernel_rfl) rfl #[.agg #[.int .i64 a0_0, .slice (some ad311) l0_1.length c0_1], .int .i64 (rd (rd_L2 l0_1 x12_1) 1)] (by rfl) rfl rfl ar_ ?_
    with_reducible refine (impl_isClaim.calls a0_0 _ _ l0_1 (rd (rd_L2 l0_1 x12_1) 1) true _ ?side1 ?side2 A14.out).mono ?_
    (case side1 => exact cb_ HR0_1.out)
    (case side2 => exact HC0_1.out)
    rintro e w24 ⟨rfl, hb⟩
    refine ⟨_, rfl, ?_⟩
    replace BK309 := Aside0.mk (Zd (bq_ BK309.out) hb)
    replace HB := Aside0.mk (Zc hB_ hb)
    (try clear hb)
    (try clear hb2)
    (try clear hk)
    (try clear hi)
    refine hK.out _ _ ⟨(Za BK309.out 0).trans rfl, (Za BK309.out 1).trans rfl, ((HB.out.cell (World.block_lt_of_cell? w _ hw312_0)).trans hw312_0), ((HB.out.cell (World.block_lt_of_cell? w _ hw314_0)).trans hw314_0), ((HB.out.cell (World.block_lt_of_cell? w _ hw316_0)).trans hw316_0)⟩ (fun hHeld => ?_)
    clear hK K
    refine no_ 33 ?_
    refine pu_ 17 34 (m_ 34 262143) ?_
    refine pu_ 18 35 (m_ 34 524287) ?_
    refine pu_ 19 36 (m_ 34 1048575) ?_
    refine pu_ 20 37 (m_ 34 2097151) ?_
    refine pu_ 21 38 (m_ 34 4194303) ?_
    refine pu_ 22 39 (m_ 34 8388607) ?_
    refine pu_ 23 40 (m_ 34 16777215) ?_
    refine pu_ 25 42 (m_ 34 50331647) ?_
    refine pu_ 26 43 (m_ 34 117440511) ?_
    refine pu_ 29 46 (m_ 34 654311423) ?_
    refine tk5_ 24 41 (m_ 34 671088639) hHeld ?_
    refine pu_ 27 44 (m_ 34 805306367) ?_
    refine tk5_ 28 45 (m_ 34 1073741823) hHeld ?_
    refine on_ 30 47 (m_ 34 2147483647) (fun K hK => ?_)
    refine goes_ Try.func67 (by kernel_rfl) rfl #[.slice A316_0 (rd_L2 l0_1 (ji17)).length c316_0, .slice (some ad312) (rd_L2 l0_1 x12_1).length c311_0] (by rfl) rfl rfl (by (try simp only [List.map_toArray, List.map_cons, List.map_nil]); first | done | (simp only [hji17]; rfl) | rfl | (simp only [List.length_drop, List.length_take]; rfl)) ?_
    with_reducible refine (slices_Compare_int_int.calls k1 _ _ (rd_L2 l0_1 (ji17)) _ _ (rd_L2 l0_1 x12_1) t317 _ ?side1 ?side2 ?side3 ?side4 A20.out).mono ?_
    (case side1 => exact cb_ HR316_0.out)
    (case side2 => exact HC316_0.out)
    (case side3 => exact cb_ HR311_0.out)
    (case side4 => exact HC311_0.out)
    rintro e w' ⟨rfl, ⟨nd, rfl⟩⟩
    refine ⟨_, rfl, ?_⟩
    refine hK.out _ _ ⟨(Za BK309.out 0).trans rfl, (Za BK309.out 1).trans rfl, ((HB.out.cell (World.block_lt_of_cell? w _ hw312_0)).trans hw312_0), ((HB.out.cell (World.block_lt_of_cell? w _ hw314_0)).trans hw314_0), ((HB.out.cell (World.block_lt_of_cell? w _ hw316_0)).trans hw316_0)⟩ (fun hHeld => ?_)
    clear hK K
    refine no_ 47 ?_
    refine pu_ 31 48 (m_ 34 4294967295) ?_
    refine pu_ 32 49 (m_ 34 8589934591) ?_
    refine pu_ 33 50 (m_ 34 17179869183) ?_
    refine done_ (done_of HT_.out (by kernel_rfl)) ?_
    try go_wp2
    go_ret
    exact ⟨by first | rfl | (simp [errW_none, errW_some] <;> rfl) | (simp only [← hji17]; first | rfl | (simp [errW_none, errW_some] <;> rfl)) | (simp [*, errW_none, errW_some] <;> rfl), hB_⟩
   rw [if_neg c21] at H
   have c21b0 : decide (0 ≤ t317) = false := decide_eq_false c21
   clear c21
   have H' := Aside0.mk H
   clear H
   have p311 : 0 ≤ (x12_1 : Int) := of_decide_eq_true as_
   have q311 : x12_1 < (l0_1.length : Int) := of_decide_eq_true as_
   obtain ⟨ad311, A311_0, c311_0, e311, hx311_0, hl311_0, hi311_0⟩ := at_L2 HR0_1.out x12_1 p311 q311
   cases e311
   replace hx311_0 := (HB.out.cell (World.block_lt_of_cell? w _ hx311_0)).trans hx311_0
   have HR311_0 := Aside0.mk hi311_0
   have HC311_0 := Aside0.mk hl311_0
   clear hi311_0 hl311_0
   replace p311 := eq_true p311
   replace q311 := eq_true q311
   try go_wp2
   replace BK309 := Aside0.mk (Zj BK309.out)
   replace HB := Aside0.mk (Zq HB.out)
   have p312 : 0 ≤ (0 : Int) := (by omega)
   have q312 : 0 < ((rd_L2 l0_1 x12_1).length : Int) := of_decide_eq_true as_
   obtain ⟨ad312, e312, hx312_0⟩ := Zo HR311_0.out 0 p312 q312
   have hw312_0 := hx312_0
   (try rw [show ((0 : Int)).toNat = 0 from rfl] at hw312_0)
   (try rw [show 0 * 1 = 0 from rfl] at hw312_0)
   (try rw [Addr.add_zero'] at hw312_0)
   cases e312
   have qi312 : (0 < (rd_L2 l0_1 x12_1).length) = True := eq_true (by omega)
   (try rw [show ((0 : Int)).toNat = 0 from rfl] at hx312_0)
   (try rw [Addr.add_zero'] at hx312_0)
   replace hx312_0 := (HB.out.cell (World.block_lt_of_cell? w _ hx312_0)).trans hx312_0
   replace p312 := eq_true p312
   replace q312 := eq_true q312
   have p314 : 0 ≤ (1 : Int) := (by omega)
   have q314 : 1 < ((rd_L2 l0_1 x12_1).length : Int) := of_decide_eq_true as_
   obtain ⟨ad314, e314, hx314_0⟩ := Zo HR311_0.out 1 p314 q314
   have hw314_0 := hx314_0
   (try rw [show ((1 : Int)).toNat = 1 from rfl] at hw314_0)
   (try rw [show 1 * 1 = 1 from rfl] at hw314_0)
   (try simp only [Nat.reduceMul, Nat.reduceEqDiff, Go.Addr.add, ↓reduceIte] at hw314_0)
   obtain rfl : ad312 = ad314 := (by injection e314)
   (try simp only [show (1 : Int).toNat = 1 from rfl, Nat.reduceMul, Nat.reduceEqDiff, Go.Addr.add, ↓reduceIte] at hx314_0)
   have qi314 : (1 < (rd_L2 l0_1 x12_1).length) = True := eq_true (by omega)
   (try rw [show ((1 : Int)).toNat = 1 from rfl] at hx314_0)
   replace hx314_0 := (HB.out.cell (World.block_lt_of_cell? w _ hx314_0)).trans hx314_0
   replace p314 := eq_true p314
   replace q314 := eq_true q314
   have p316 : 0 ≤ ((ji17) : Int) := of_decide_eq_true as_
   have q316 : (ji17) < (l0_1.length : Int) := of_decide_eq_true as_
   obtain ⟨ad316, A316_0, c316_0, e316, hx316_0, hl316_0, hi316_0⟩ := at_L2 HR0_1.out (ji17) p316 q316
   have hw316_0 := hx316_0
   obtain rfl : ad311 = ad316 := (by injection e316)
   replace hx316_0 := (HB.out.cell (World.block_lt_of_cell? w _ hx316_0)).trans hx316_0
   have HR316_0 := Aside0.mk hi316_0
   have HC316_0 := Aside0.mk hl316_0
   clear hi316_0 hl316_0
   replace p316 := eq_true p316
   replace q316 := eq_true q316
   refine start_ (n := 34) (S := fun w' => w'.cell? ⟨gb309, 0, none⟩ = some (.int .i64 a0_0) ∧ w'.cell? ⟨gb309, 1, none⟩ = some (.slice (some ad311) l0_1.length c0_1) ∧ w'.cell? ad312 = some (.int .i64 (rd (rd_L2 l0_1 x12_1) 0)) ∧ w'.cell? ⟨ad312.block, ad312.off + 1, none⟩ = some (.int .i64 (rd (rd_L2 l0_1 x12_1) 1)) ∧ w'.cell? (ad311.add ((ji17)).toNat) = some (.slice A316_0 (rd_L2 l0_1 (ji17)).length c316_0)) (ds := []) (m_ 34 0) (by kernel_rfl) rfl rfl ⟨(Za BK309.out 0).trans rfl, (Za BK309.out 1).trans rfl, ((HB.out.cell (World.block_lt_of_cell? w _ hw312_0)).trans hw312_0), ((HB.out.cell (World.block_lt_of_cell? w _ hw314_0)).trans hw314_0), ((HB.out.cell (World.block_lt_of_cell? w _ hw316_0)).trans hw316_0)⟩ (fun hHeld => ?_); refine with_tabW impl_IsGraph.tab6 impl_IsGraph.bits6 (fun HT_ HW_ => ?_)
   generalize wr.drew = w25 at BK309 HB HR316_0 hx312_0 hx314_0 hx316_0 hHeld ⊢
   refine pu_ 0 17 (m_ 34 1) ?_
   refine pu_ 1 18 (m_ 34 3) ?_
   refine pu_ 2 19 (m_ 34 7) ?_
   refine pu_ 3 20 (m_ 34 15) ?_
   refine pu_ 5 22 (m_ 34 47) ?_
   refine pu_ 6 23 (m_ 34 111) ?_
   refine tk5_ 4 21 (m_ 34 127) hHeld ?_
   refine tk5_ 7 24 (m_ 34 255) hHeld ?_
   refine on_ 8 25 (m_ 34 511) (fun K hK => ?_)
   refine goes_ Try.func61 (by kernel_rfl) rfl #[.agg #[.int .i64 a0_0, .slice (some ad311) l0_1.length c0_1], .int .i64 (rd (rd_L2 l0_1 x12_1) 0)] (by rfl) rfl rfl ar_ ?_
   with_reducible refine (impl_isClaim.calls a0_0 _ _ l0_1 (rd (rd_L2 l0_1 x12_1) 0) true _ ?side1 ?side2 A11.out).mono ?_
   (case side1 => exact cb_ HR0_1.out)
   (case side2 => exact HC0_1.out)
   rintro e w26 ⟨rfl, hb⟩
   refine ⟨_, rfl, ?_⟩
   replace BK309 := Aside0.mk (Zd (bq_ BK309.out) hb)
   replace HB := Aside0.mk (Zc hB_ hb)
   (try clear hb)
   (try clear hb2)
   (try clear hk)
   (try clear hi)
   refine hK.out _ _ ⟨(Za BK309.out 0).trans rfl, (Za BK309.out 1).trans rfl, ((HB.out.cell (World.block_lt_of_cell? w _ hw312_0)).trans hw312_0), ((HB.out.cell (World.block_lt_of_cell? w _ hw314_0)).trans hw314_0), ((HB.out.cell (World.block_lt_of_cell? w _ hw316_0)).trans hw316_0)⟩ (fun hHeld => ?_)
   clear hK K
   refine no_ 25 ?_
   refine pu_ 9 26 (m_ 34 1023) ?_
   refine pu_ 10 27 (m_ 34 2047) ?_
   refine pu_ 11 28 (m_ 34 4095) ?_
   refine pu_ 13 30 (m_ 34 12287) ?_
   refine pu_ 14 31 (m_ 34 28671) ?_
   refine tk5_ 12 29 (m_ 34 32767) hHeld ?_
   refine tk5_ 15 32 (m_ 34 65535) hHeld ?_
   refine on_ 16 33 (m_ 34 131071) (fun K hK => ?_)
   refine goes_ Try.func61 (by kernel_rfl) rfl #[.agg #[.int .i64 a0_0, .slice (some ad311) l0_1.length c0_1], .int .i64 (rd (rd_L2 l0_1 x12_1) 1)] (by rfl) rfl rfl ar_ ?_
   with_reducible refine (impl_isClaim.calls a0_0 _ _ l0_1 (rd (rd_L2 l0_1 x12_1) 1) true _ ?side1 ?side2 A14.out).mono ?_
   (case side1 => exact cb_ HR0_1.out)
   (case side2 => exact HC0_1.out)
   rintro e w27 ⟨rfl, hb⟩
   refine ⟨_, rfl, ?_⟩
   replace BK309 := Aside0.mk (Zd (bq_ BK309.out) hb)
   replace HB := Aside0.mk (Zc hB_ hb)
   (try clear hb)
   (try clear hb2)
   (try clear hk)
   (try clear hi)
   refine hK.out _ _ ⟨(Za BK309.out 0).trans rfl, (Za BK309.out 1).trans rfl, ((HB.out.cell (World.block_lt_of_cell? w _ hw312_0)).trans hw312_0), ((HB.out.cell (World.block_lt_of_cell? w _ hw314_0)).trans hw314_0), ((HB.out.cell (World.block_lt_of_cell? w _ hw316_0)).trans hw316_0)⟩ (fun hHeld => ?_)
   clear hK K
   refine no_ 33 ?_
   refine pu_ 17 34 (m_ 34 262143) ?_
   refine pu_ 18 35 (m_ 34 524287) ?_
   refine pu_ 19 36 (m_ 34 1048575) ?_
   refine pu_ 20 37 (m_ 34 2097151) ?_
   refine pu_ 21 38 (m_ 34 4194303) ?_
   refine pu_ 22 39 (m_ 34 8388607) ?_
   refine pu_ 23 40 (m_ 34 16777215) ?_
   refine pu_ 25 42 (m_ 34 50331647) ?_
   refine pu_ 26 43 (m_ 34 117440511) ?_
   refine pu_ 29 46 (m_ 34 654311423) ?_
   refine tk5_ 24 41 (m_ 34 671088639) hHeld ?_
   refine pu_ 27 44 (m_ 34 805306367) ?_
   refine tk5_ 28 45 (m_ 34 1073741823) hHeld ?_
   refine on_ 30 47 (m_ 34 2147483647) (fun K hK => ?_)
   refine goes_ Try.func67 (by kernel_rfl) rfl #[.slice A316_0 (rd_L2 l0_1 (ji17)).length c316_0, .slice (some ad312) (rd_L2 l0_1 x12_1).length c311_0] (by rfl) rfl rfl (by (try simp only [List.map_toArray, List.map_cons, List.map_nil]); first | done | (simp only [hji17]; rfl) | rfl | (simp only [List.length_drop, List.length_take]; rfl)) ?_
   with_reducible refine (slices_Compare_int_int.calls k1 _ _ (rd_L2 l0_1 (ji17)) _ _ (rd_L2 l0_1 x12_1) t317 _ ?side1 ?side2 ?side3 ?side4 A20.out).mono ?_
   (case side1 => exact cb_ HR316_0.out)
   (case side2 => exact HC316_0.out)
   (case side3 => exact cb_ HR311_0.out)
   (case side4 => exact HC311_0.out)
   rintro e w' ⟨rfl, ⟨nd, rfl⟩⟩
   refine ⟨_, rfl, ?_⟩
   refine hK.out _ _ ⟨(Za BK309.out 0).trans rfl, (Za BK309.out 1).trans rfl, ((HB.out.cell (World.block_lt_of_cell? w _ hw312_0)).trans hw312_0), ((HB.out.cell (World.block_lt_of_cell? w _ hw314_0)).trans hw314_0), ((HB.out.cell (World.block_lt_of_cell? w _ hw316_0)).trans hw316_0)⟩ (fun hHeld => ?_)
   clear hK K
   refine no_ 47 ?_
   refine pu_ 31 48 (m_ 34 4294967295) ?_
   refine pu_ 32 49 (m_ 34 8589934591) ?_
   refine pu_ 33 50 (m_ 34 17179869183) ?_
   refine done_ (done_of HT_.out (by kernel_rfl)) ?_
   try go_wp2
   go_roundg k1
   case measure => have := HK1.out; omega
   case rel => exact ⟨(wrap64 (x12_1 + 1)), sm_, H', ⟨by have := HK1.out; omega⟩, ⟨bk_ BK309.out⟩, ⟨hB_⟩⟩

end Go.Proofs.Ytdlobolnajcfnaa.PFnPositions
