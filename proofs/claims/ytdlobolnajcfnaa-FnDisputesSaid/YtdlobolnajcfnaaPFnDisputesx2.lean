-- Written by a program of this session (hooks of mine on the print): Lean checks it.
import Derived.Test.YtdlobolnajcfnaaPFnDisputesx0
import Derived.Test.YtdlobolnajcfnaaPFnDisputesx1
namespace Go.Proofs.Ytdlobolnajcfnaa.PFnDisputes
open Go.RowKit Go.Proofs.YtdlobolnajcfnaaW.PrintWords Go.Proofs.YtdlobolnajcfnaaW.PrintLast Go.Proofs.YtdlobolnajcfnaaW.PrintMore
attribute [local go_sem] max2_int min2_int max_two min_two max_three min_three max_four min_four   -- for this text's walks alone
set_option linter.unusedVariables false
set_option linter.unusedSimpArgs false

/-! ### impl_IsGraph: function 24 -/
mutual
def impl_IsGraph.l0 : Nat → List (List Int) → Int → Int → Int → List (List Int) → Option (Bool)
 | 0, _, _, _, _, _ => none
 | k + 1, x10, x11, x12, x109000, x109001 => if x12 < x11 then (if 0 ≤ x12 then (if x12 < (x10.length : Int) then (if ((rd_L2 x10 x12).length : Int) = 2 then (if 0 < ((rd_L2 x10 x12).length : Int) then ((impl_isClaim.f x109000 x109001 (rd (rd_L2 x10 x12) 0)).bind fun t112 => (if t112 = true then (if 1 < ((rd_L2 x10 x12).length : Int) then ((impl_isClaim.f x109000 x109001 (rd (rd_L2 x10 x12) 1)).bind fun t114 => (if t114 = true then (if x12 > 0 then (if 0 ≤ (wrap64 (x12 - 1)) then (if (wrap64 (x12 - 1)) < (x109001.length : Int) then ((slices_Compare_int_int.f k (rd_L2 x109001 (wrap64 (x12 - 1))) (rd_L2 x10 x12)).bind fun t116 => (impl_IsGraph.j1 k x10 x11 x12 (decide (t116 ≥ 0)) x109000 x109001)) else (none)) else (none)) else (impl_IsGraph.j1 k x10 x11 x12 false x109000 x109001)) else (impl_IsGraph.j1 k x10 x11 x12 true x109000 x109001))) else (none)) else (impl_IsGraph.j1 k x10 x11 x12 true x109000 x109001))) else (none)) else (impl_IsGraph.j1 k x10 x11 x12 true x109000 x109001)) else (none)) else (none)) else (some true)
def impl_IsGraph.j1 : Nat → List (List Int) → Int → Int → Bool → Int → List (List Int) → Option (Bool)
 | 0, _, _, _, _, _, _ => none
 | k + 1, x10, x11, x12, x50, x109000, x109001 => if x50 = true then (some false) else (impl_IsGraph.l0 k x10 x11 (wrap64 (x12 + 1)) x109000 x109001)
end
def impl_IsGraph.f (k : Nat) (a0_0 : Int) (l0_1 : List (List Int)) : Option (Bool) := (impl_InRange.f a0_0 0 10).bind fun t109 => (if t109 = true then (impl_IsGraph.l0 k l0_1 (l0_1.length : Int) 0 a0_0 l0_1) else (some false))
theorem impl_IsGraph.mono_l : ∀ k, (∀ y0 y1 y2 y3 y4, LeO (impl_IsGraph.l0 k y0 y1 y2 y3 y4) (impl_IsGraph.l0 (k + 1) y0 y1 y2 y3 y4)) ∧ (∀ y0 y1 y2 y3 y4 y5, LeO (impl_IsGraph.j1 k y0 y1 y2 y3 y4 y5) (impl_IsGraph.j1 (k + 1) y0 y1 y2 y3 y4 y5))
 | 0 => ⟨fun _ _ _ _ _ r h => by simp [impl_IsGraph.l0] at h, fun _ _ _ _ _ _ r h => by simp [impl_IsGraph.j1] at h⟩
 | k + 1 => by
  obtain ⟨ih0, ih1⟩ := impl_IsGraph.mono_l k
  refine ⟨?_, ?_⟩
  ·intro y0 y1 y2 y3 y4
   unfold impl_IsGraph.l0
   repeat' with_reducible first | apply ih0 | apply ih1 | apply slices_Compare_int_int.mono | apply ZJ | apply Zn | refine Zu ?_ ?_ | refine Zo ?_ (fun _ => ?_)
  ·intro y0 y1 y2 y3 y4 y5
   unfold impl_IsGraph.j1
   repeat' with_reducible first | apply ih0 | apply ih1 | apply slices_Compare_int_int.mono | apply ZJ | apply Zn | refine Zu ?_ ?_ | refine Zo ?_ (fun _ => ?_)
theorem impl_IsGraph.mono : ∀ a0 a1 k, LeO (impl_IsGraph.f k a0 a1) (impl_IsGraph.f (k + 1) a0 a1) := by
 intro a0 a1 k
 obtain ⟨ih0, ih1⟩ := impl_IsGraph.mono_l k
 unfold impl_IsGraph.f
 repeat' with_reducible first | apply ih0 | apply ih1 | apply slices_Compare_int_int.mono | apply ZJ | apply Zn | refine Zu ?_ ?_ | refine Zo ?_ (fun _ => ?_)
def impl_IsGraph.T6 : Bool × List (List Nat × List Nat) := (true, [([], []), ([0], [0]), ([1], [1]), ([2], [2]), ([3], [3]), ([3], [3]), ([5, 3], [3, 5]), ([6, 3], [3, 6]), ([4, 7, 3, 3], [3, 4, 7]), ([8, 3], [3, 8]), ([3, 9], [3, 9]), ([10, 8], [10]), ([11], [11]), ([11], [11]), ([13, 11], [11, 13]), ([14, 11], [11, 14]), ([12, 15, 11, 11], [11, 12, 15]), ([16, 11], [11, 16]), ([11, 17], [11, 17]), ([18, 16], [18]), ([19], [19]), ([20, 19], [19, 20]), ([21, 19, 19], [19, 21]), ([22], [22]), ([23, 22], [22, 23]), ([22], [22]), ([25, 22], [22, 25]), ([24, 26, 22], [22, 24, 26]), ([27, 22], [22, 27]), ([22], [22]), ([28, 29, 22, 22], [22, 28, 29]), ([30, 22], [22, 30]), ([22, 31, 19], [19, 22, 31]), ([19, 32], [19, 32])])
def impl_IsGraph.B6 : List Nat := [0, 1, 3, 7, 15, 15, 47, 111, 255, 511, 1023, 2047, 4095, 4095, 12287, 28671, 65535, 131071, 262143, 524287, 1048575, 2097151, 4194303, 8388607, 16777215, 8388607, 41943039, 134217727, 268435455, 8388607, 1073741823, 2147483647, 4294967295, 8589934591]
theorem impl_IsGraph.tab6 : rtab .any (opsOf Try.f24 6) = impl_IsGraph.T6 := by kernel_rfl
theorem impl_IsGraph.bits6 : waitsOk impl_IsGraph.T6.2 impl_IsGraph.B6 = true := by kernel_rfl
set_option maxHeartbeats 8000000 in
set_option maxRecDepth 100000 in
theorem impl_IsGraph.calls (k : Nat) (a0_0 : Int) (A0_1 : Option Addr) (c0_1 : Nat) (l0_1 : List (List Int)) (r : Bool) (w : World) (hr0_1 : Kd.C (Kd.slice 3 (Kd.int .i64)) w A0_1 l0_1.length l0_1) (hc0_1 : l0_1.length ≤ c0_1) (h : impl_IsGraph.f k a0_0 l0_1 = some r) :
  Calls Try.prog 24 #[.agg #[.int .i64 a0_0, .slice A0_1 l0_1.length c0_1]] w fun e w' => e = .returned (.bool r) ∧ Below w.heap.size w w' := by
 have hu27 := Try.underlying27
 have HR0_1 := Aside0.mk hr0_1
 have HC0_1 := Aside0.mk hc0_1
 clear hr0_1 hc0_1
 have HB := Aside0.mk (Below.refl w.heap.size w)
 have H := h
 unfold impl_IsGraph.f at H
 clear h
 obtain ⟨t109, A2, H⟩ := bd_ H
 try dsimp only at H
 by_cases c3 : t109 = true
 rotate_left
 ·replace c3 := Bool.eq_false_iff.mpr c3
  subst c3
  rw [if_neg (show ¬ (false = true) by decide)] at H
  try dsimp only at H
  obtain rfl := Option.some.inj H
  go_enter Try.func24, Try.ntmps24
  go_wp2_with (first | ((with_reducible refine ZA (N := 1) rfl ?_); refine ZC ?hg (N := 1) ?hd (cs := #[.int .i64 a0_0, .slice A0_1 l0_1.length c0_1]) (t := 27) ?hr ?_; (case hd => rfl); (case hg => rfl); (case hr => first | (go_simp; done) | (go_simp; rfl)); intro gb108 hg w35 hbox hb; have BK108 := Aside0.mk (hbox); have GW108 := Aside0.mk ((hz_ hg : w.heap.size ≤ gb108)); have GE108 := Aside0.mk ((hz_ hg : w.heap.size ≤ gb108)); replace HB := Aside0.mk (Zh hB_ hb); clear hb hbox hg; obtain ⟨hcz36_0, hcz36_1, hfz36_0, hfz36_1⟩ := c2_ BK108.out; (try clear BK108)) | ((with_reducible refine Zl (f := 74) rfl ?_); refine ZI (some 7) rfl rfl Try.func74 (by kernel_rfl) rfl #[.int .i64 a0_0, .int .i64 0, .int .i64 10] rfl ar_ ?_; (with_reducible refine (impl_InRange.calls a0_0 0 10 false _ A2.out).mono ?_); rintro e w' ⟨rfl, ⟨nd, rfl⟩⟩; refine ⟨_, rfl, ?_⟩))
  go_ret
  exact ⟨er_, hB_⟩
 subst c3
 rw [if_pos rfl] at H
 try dsimp only at H
 have H' := Aside0.mk H
 clear H
 go_enter Try.func24, Try.ntmps24
 go_wp2_with (first | ((with_reducible refine ZA (N := 1) rfl ?_); refine ZC ?hg (N := 1) ?hd (cs := #[.int .i64 a0_0, .slice A0_1 l0_1.length c0_1]) (t := 27) ?hr ?_; (case hd => rfl); (case hg => rfl); (case hr => first | (go_simp; done) | (go_simp; rfl)); intro gb108 hg w4 hbox hb; have BK108 := Aside0.mk (hbox); have GW108 := Aside0.mk ((hz_ hg : w.heap.size ≤ gb108)); have GE108 := Aside0.mk ((hz_ hg : w.heap.size ≤ gb108)); replace HB := Aside0.mk (Zh hB_ hb); clear hb hbox hg; obtain ⟨hcz5_0, hcz5_1, hfz5_0, hfz5_1⟩ := c2_ BK108.out) | ((with_reducible refine Zl (f := 74) rfl ?_); refine ZI (some 7) rfl rfl Try.func74 (by kernel_rfl) rfl #[.int .i64 a0_0, .int .i64 0, .int .i64 10] rfl ar_ ?_; (with_reducible refine (impl_InRange.calls a0_0 0 10 true _ A2.out).mono ?_); rintro e w' ⟨rfl, ⟨nd, rfl⟩⟩; refine ⟨_, rfl, ?_⟩))
 go_loopg [12] k (fun kq v12 w' => ∃ (x12_1 : Int), v12 = .int .i64 x12_1 ∧ Aside0 (impl_IsGraph.l0 kq l0_1 (l0_1.length : Int) x12_1 a0_0 l0_1 = some r) ∧ Aside0 (kq ≤ k) ∧ Aside0 (w'.heap[gb108]? = some (.cells #[.int .i64 a0_0, (.slice A0_1 l0_1.length c0_1)] 27 (0, 0))) ∧ Aside0 (Below w.heap.size w w'))
 case atStart => exact ⟨(0), sm_, H', ⟨Nat.le_refl _⟩, ⟨bk_ BK108.out⟩, ⟨hB_⟩⟩
 case round =>
  clear H'
  try clear c2
  try clear p2
  try clear c3
  try clear hcz5_0
  try clear hcz5_1
  try clear hfz5_0
  try clear hfz5_1
  obtain ⟨x12_1, rfl, HA, HK1, BK108, HB⟩ := hrel
  cases gk with
  | zero => exact absurd HA.out (by simp [impl_IsGraph.l0])
  | succ k1 =>
   have H := HA.out
   clear HA
   simp only [impl_IsGraph.l0] at H
   by_cases c6 : x12_1 < (l0_1.length : Int)
   rotate_left
   ·rw [if_neg c6] at H
    have c6b0 : decide (x12_1 < (l0_1.length : Int)) = false := decide_eq_false c6
    clear c6
    obtain rfl := Option.some.inj H
    go_wp2
    go_ret
    exact ⟨er_, hB_⟩
   rw [if_pos c6] at H
   have c6b0 : decide (x12_1 < (l0_1.length : Int)) = true := decide_eq_true c6
   clear c6
   by_cases c7 : 0 ≤ x12_1
   rotate_left
   ·rw [if_neg c7] at H
    exact absurd H (by simp)
   rw [if_pos c7] at H
   have c7b0 : decide (0 ≤ x12_1) = true := decide_eq_true c7
   clear c7
   by_cases c8 : x12_1 < (l0_1.length : Int)
   rotate_left
   ·rw [if_neg c8] at H
    exact absurd H (by simp)
   rw [if_pos c8] at H
   have c8b0 : decide (x12_1 < (l0_1.length : Int)) = true := decide_eq_true c8
   clear c8
   have HC9 := Aside0.mk H
   clear H
   have p110 : 0 ≤ (x12_1 : Int) := of_decide_eq_true as_
   have q110 : x12_1 < (l0_1.length : Int) := of_decide_eq_true as_
   obtain ⟨ad110, A110_0, c110_0, e110, hx110_0, hl110_0, hi110_0⟩ := at_L2 HR0_1.out x12_1 p110 q110
   cases e110
   replace hx110_0 := (HB.out.cell (World.block_lt_of_cell? w _ hx110_0)).trans hx110_0
   have HR110_0 := Aside0.mk hi110_0
   have HC110_0 := Aside0.mk hl110_0
   clear hi110_0 hl110_0
   replace p110 := eq_true p110
   replace q110 := eq_true q110
   go_upto_region 6 with (fail)
   go_cut [50] (fun v50 wc => ∃ (kq : Nat) (x50_8 : Bool), v50 = .bool x50_8 ∧ Aside0 (impl_IsGraph.j1 kq l0_1 (l0_1.length : Int) x12_1 x50_8 a0_0 l0_1 = some r) ∧ Aside0 (kq ≤ k1) ∧ Aside0 (wc.heap[gb108]? = some (.cells #[.int .i64 a0_0, (.slice (some ad110) l0_1.length c0_1)] 27 (0, 0))) ∧ Aside0 (Below w.heap.size w wc))
   case first =>
    have H := HC9.out
    clear HC9
    by_cases c10 : ((rd_L2 l0_1 x12_1).length : Int) = 2
    rotate_left
    ·rw [if_neg c10] at H
     have c10b0 : (((rd_L2 l0_1 x12_1).length : Int) == 2) = false := beq_eq_false_iff_ne.mpr c10
     have c10b1 : (((rd_L2 l0_1 x12_1).length : Int) != 2) = true := bne_iff_ne.mpr c10
     (first | rw [c10b0] | (simp only [i64_w, i32_w]; rw [c10b0]) | skip)
     have H' := Aside0.mk H
     clear H
     try go_wp2
     replace BK108 := Aside0.mk (Zf BK108.out)
     replace HB := Aside0.mk (Zj HB.out)
     refine start_ (n := 34) (S := fun w' => True) (ds := []) (m_ 34 0) (by kernel_rfl) rfl rfl trivial (fun hHeld => ?_); refine with_tabW impl_IsGraph.tab6 impl_IsGraph.bits6 (fun HT_ HW_ => ?_)
     generalize wr.drew = w33 at BK108 HB hHeld ⊢
     refine pu_ 0 17 (m_ 34 1) ?_
     refine pu_ 1 18 (m_ 34 3) ?_
     refine pu_ 2 19 (m_ 34 7) ?_
     refine pu_ 3 20 (m_ 34 15) ?_
     refine pn_ 4 21 (m_ 34 31) ?_
     refine pn_ 5 22 (m_ 34 63) ?_
     refine pn_ 6 23 (m_ 34 127) ?_
     refine pn_ 7 24 (m_ 34 255) ?_
     refine pn_ 8 25 (m_ 34 511) ?_
     refine pn_ 9 26 (m_ 34 1023) ?_
     refine pu_ 10 27 (m_ 34 2047) ?_
     refine pu_ 11 28 (m_ 34 4095) ?_
     refine pn_ 12 29 (m_ 34 8191) ?_
     refine pn_ 13 30 (m_ 34 16383) ?_
     refine pn_ 14 31 (m_ 34 32767) ?_
     refine pn_ 15 32 (m_ 34 65535) ?_
     refine pn_ 16 33 (m_ 34 131071) ?_
     refine pn_ 17 34 (m_ 34 262143) ?_
     refine pu_ 18 35 (m_ 34 524287) ?_
     refine pu_ 19 36 (m_ 34 1048575) ?_
     refine pn_ 20 37 (m_ 34 2097151) ?_
     refine pn_ 21 38 (m_ 34 4194303) ?_
     refine pn_ 22 39 (m_ 34 8388607) ?_
     refine pn_ 23 40 (m_ 34 16777215) ?_
     refine pn_ 24 41 (m_ 34 33554431) ?_
     refine pn_ 25 42 (m_ 34 67108863) ?_
     refine pn_ 26 43 (m_ 34 134217727) ?_
     refine pn_ 27 44 (m_ 34 268435455) ?_
     refine pn_ 28 45 (m_ 34 536870911) ?_
     refine pn_ 29 46 (m_ 34 1073741823) ?_
     refine pn_ 30 47 (m_ 34 2147483647) ?_
     refine pn_ 31 48 (m_ 34 4294967295) ?_
     refine pn_ 32 49 (m_ 34 8589934591) ?_
     refine pu_ 33 50 (m_ 34 17179869183) ?_
     refine done_ (done_of HT_.out (by kernel_rfl)) ?_
     try go_wp2
     go_meet
     case rel => exact ⟨_, (true), sm_, H', ⟨by have := HK1.out; first | omega | exact Nat.le_refl _⟩, ⟨bk_ BK108.out⟩, ⟨hB_⟩⟩
    rw [if_pos c10] at H
    have c10b0 : (((rd_L2 l0_1 x12_1).length : Int) == 2) = true := beq_iff_eq.mpr c10
    have c10b1 : (((rd_L2 l0_1 x12_1).length : Int) != 2) = false := bne_eq_false_iff_eq.mpr c10
    clear c10
    (first | rw [c10b0] | (simp only [i64_w, i32_w]; rw [c10b0]) | skip)
    by_cases c11 : 0 < ((rd_L2 l0_1 x12_1).length : Int)
    rotate_left
    ·rw [if_neg c11] at H
     exact absurd H (by simp)
    rw [if_pos c11] at H
    have c11b0 : decide (0 < ((rd_L2 l0_1 x12_1).length : Int)) = true := decide_eq_true c11
    have c11b1 : decide (0 < (rd_L2 l0_1 x12_1).length) = true := decide_eq_true (by omega)
    clear c11
    obtain ⟨t112, A12, H⟩ := bd_ H
    try dsimp only at H
    by_cases c13 : t112 = true
    rotate_left
    ·replace c13 := Bool.eq_false_iff.mpr c13
     subst c13
     rw [if_neg (show ¬ (false = true) by decide)] at H
     try dsimp only at H
     have H' := Aside0.mk H
     clear H
     try go_wp2
     replace BK108 := Aside0.mk (Zf BK108.out)
     replace HB := Aside0.mk (Zj HB.out)
     have p111 : 0 ≤ (0 : Int) := (by omega)
     have q111 : 0 < ((rd_L2 l0_1 x12_1).length : Int) := of_decide_eq_true as_
     obtain ⟨ad111, e111, hx111_0⟩ := Zx HR110_0.out 0 p111 q111
     have hw111_0 := hx111_0
     (try rw [show ((0 : Int)).toNat = 0 from rfl] at hw111_0)
     (try rw [show 0 * 1 = 0 from rfl] at hw111_0)
     (try rw [Addr.add_zero'] at hw111_0)
     cases e111
     have qi111 : (0 < (rd_L2 l0_1 x12_1).length) = True := eq_true (by omega)
     (try rw [show ((0 : Int)).toNat = 0 from rfl] at hx111_0)
     (try rw [Addr.add_zero'] at hx111_0)
     replace hx111_0 := (HB.out.cell (World.block_lt_of_cell? w _ hx111_0)).trans hx111_0
     replace p111 := eq_true p111
     replace q111 := eq_true q111
     refine start_ (n := 34) (S := fun w' => w'.cell? ⟨gb108, 0, none⟩ = some (.int .i64 a0_0) ∧ w'.cell? ⟨gb108, 1, none⟩ = some (.slice (some ad110) l0_1.length c0_1) ∧ w'.cell? ad111 = some (.int .i64 (rd (rd_L2 l0_1 x12_1) 0))) (ds := []) (m_ 34 0) (by kernel_rfl) rfl rfl ⟨(Za BK108.out 0).trans rfl, (Za BK108.out 1).trans rfl, ((HB.out.cell (World.block_lt_of_cell? w _ hw111_0)).trans hw111_0)⟩ (fun hHeld => ?_); refine with_tabW impl_IsGraph.tab6 impl_IsGraph.bits6 (fun HT_ HW_ => ?_)
     generalize wr.drew = w31 at BK108 HB hx111_0 hHeld ⊢
     refine pu_ 0 17 (m_ 34 1) ?_
     refine pu_ 1 18 (m_ 34 3) ?_
     refine pu_ 2 19 (m_ 34 7) ?_
     refine pu_ 3 20 (m_ 34 15) ?_
     refine pu_ 5 22 (m_ 34 47) ?_
     refine pu_ 6 23 (m_ 34 111) ?_
     refine tk3_ 4 21 (m_ 34 127) hHeld ?_
     refine tk3_ 7 24 (m_ 34 255) hHeld ?_
     refine on_ 8 25 (m_ 34 511) (fun K hK => ?_)
     refine goes_ Try.func61 (by kernel_rfl) rfl #[.agg #[.int .i64 a0_0, .slice (some ad110) l0_1.length c0_1], .int .i64 (rd (rd_L2 l0_1 x12_1) 0)] (by rfl) rfl rfl ar_ ?_
     with_reducible refine (impl_isClaim.calls a0_0 _ _ l0_1 (rd (rd_L2 l0_1 x12_1) 0) false _ ?side1 ?side2 A12.out).mono ?_
     (case side1 => exact cb_ HR0_1.out)
     (case side2 => exact HC0_1.out)
     rintro e w32 ⟨rfl, hb⟩
     refine ⟨_, rfl, ?_⟩
     replace BK108 := Aside0.mk (Zg (bq_ BK108.out) hb)
     replace HB := Aside0.mk (Zh hB_ hb)
     (try clear hb)
     (try clear hb2)
     (try clear hk)
     (try clear hi)
     refine hK.out _ _ ⟨(Za BK108.out 0).trans rfl, (Za BK108.out 1).trans rfl, ((HB.out.cell (World.block_lt_of_cell? w _ hw111_0)).trans hw111_0)⟩ (fun hHeld => ?_)
     clear hK K
     refine no_ 25 ?_
     refine pu_ 9 26 (m_ 34 1023) ?_
     refine pu_ 10 27 (m_ 34 2047) ?_
     refine pu_ 11 28 (m_ 34 4095) ?_
     refine pn_ 12 29 (m_ 34 8191) ?_
     refine pn_ 13 30 (m_ 34 16383) ?_
     refine pn_ 14 31 (m_ 34 32767) ?_
     refine pn_ 15 32 (m_ 34 65535) ?_
     refine pn_ 16 33 (m_ 34 131071) ?_
     refine pn_ 17 34 (m_ 34 262143) ?_
     refine pu_ 18 35 (m_ 34 524287) ?_
     refine pu_ 19 36 (m_ 34 1048575) ?_
     refine pn_ 20 37 (m_ 34 2097151) ?_
     refine pn_ 21 38 (m_ 34 4194303) ?_
     refine pn_ 22 39 (m_ 34 8388607) ?_
     refine pn_ 23 40 (m_ 34 16777215) ?_
     refine pn_ 24 41 (m_ 34 33554431) ?_
     refine pn_ 25 42 (m_ 34 67108863) ?_
     refine pn_ 26 43 (m_ 34 134217727) ?_
     refine pn_ 27 44 (m_ 34 268435455) ?_
     refine pn_ 28 45 (m_ 34 536870911) ?_
     refine pn_ 29 46 (m_ 34 1073741823) ?_
     refine pn_ 30 47 (m_ 34 2147483647) ?_
     refine pn_ 31 48 (m_ 34 4294967295) ?_
     refine pn_ 32 49 (m_ 34 8589934591) ?_
     refine pu_ 33 50 (m_ 34 17179869183) ?_
     refine done_ (done_of HT_.out (by kernel_rfl)) ?_
     try go_wp2
     go_meet
     case rel => exact ⟨_, (true), sm_, H', ⟨by have := HK1.out; first | omega | exact Nat.le_refl _⟩, ⟨bk_ BK108.out⟩, ⟨hB_⟩⟩
    subst c13
    rw [if_pos rfl] at H
    try dsimp only at H
    by_cases c14 : 1 < ((rd_L2 l0_1 x12_1).length : Int)
    rotate_left
    ·rw [if_neg c14] at H
     exact absurd H (by simp)
    rw [if_pos c14] at H
    have c14b0 : decide (1 < ((rd_L2 l0_1 x12_1).length : Int)) = true := decide_eq_true c14
    have c14b1 : decide (1 < (rd_L2 l0_1 x12_1).length) = true := decide_eq_true (by omega)
    clear c14
    obtain ⟨t114, A15, H⟩ := bd_ H
    try dsimp only at H
    by_cases c16 : t114 = true
    rotate_left
    ·replace c16 := Bool.eq_false_iff.mpr c16
     subst c16
     rw [if_neg (show ¬ (false = true) by decide)] at H
     try dsimp only at H
     have H' := Aside0.mk H
     clear H
     try go_wp2
     replace BK108 := Aside0.mk (Zf BK108.out)
     replace HB := Aside0.mk (Zj HB.out)
     have p111 : 0 ≤ (0 : Int) := (by omega)
     have q111 : 0 < ((rd_L2 l0_1 x12_1).length : Int) := of_decide_eq_true as_
     obtain ⟨ad111, e111, hx111_0⟩ := Zx HR110_0.out 0 p111 q111
     have hw111_0 := hx111_0
     (try rw [show ((0 : Int)).toNat = 0 from rfl] at hw111_0)
     (try rw [show 0 * 1 = 0 from rfl] at hw111_0)
     (try rw [Addr.add_zero'] at hw111_0)
     cases e111
     have qi111 : (0 < (rd_L2 l0_1 x12_1).length) = True := eq_true (by omega)
     (try rw [show ((0 : Int)).toNat = 0 from rfl] at hx111_0)
     (try rw [Addr.add_zero'] at hx111_0)
     replace hx111_0 := (HB.out.cell (World.block_lt_of_cell? w _ hx111_0)).trans hx111_0
     replace p111 := eq_true p111
     replace q111 := eq_true q111
     have p113 : 0 ≤ (1 : Int) := (by omega)
     have q113 : 1 < ((rd_L2 l0_1 x12_1).length : Int) := of_decide_eq_true as_
     obtain ⟨ad113, e113, hx113_0⟩ := Zx HR110_0.out 1 p113 q113
     have hw113_0 := hx113_0
     (try rw [show ((1 : Int)).toNat = 1 from rfl] at hw113_0)
     (try rw [show 1 * 1 = 1 from rfl] at hw113_0)
     (try simp only [Nat.reduceMul, Nat.reduceEqDiff, Go.Addr.add, ↓reduceIte] at hw113_0)
     obtain rfl : ad111 = ad113 := (by injection e113)
     (try simp only [show (1 : Int).toNat = 1 from rfl, Nat.reduceMul, Nat.reduceEqDiff, Go.Addr.add, ↓reduceIte] at hx113_0)
     have qi113 : (1 < (rd_L2 l0_1 x12_1).length) = True := eq_true (by omega)
     (try rw [show ((1 : Int)).toNat = 1 from rfl] at hx113_0)
     replace hx113_0 := (HB.out.cell (World.block_lt_of_cell? w _ hx113_0)).trans hx113_0
     replace p113 := eq_true p113
     replace q113 := eq_true q113
     refine start_ (n := 34) (S := fun w' => w'.cell? ⟨gb108, 0, none⟩ = some (.int .i64 a0_0) ∧ w'.cell? ⟨gb108, 1, none⟩ = some (.slice (some ad110) l0_1.length c0_1) ∧ w'.cell? ad111 = some (.int .i64 (rd (rd_L2 l0_1 x12_1) 0)) ∧ w'.cell? ⟨ad111.block, ad111.off + 1, none⟩ = some (.int .i64 (rd (rd_L2 l0_1 x12_1) 1))) (ds := []) (m_ 34 0) (by kernel_rfl) rfl rfl ⟨(Za BK108.out 0).trans rfl, (Za BK108.out 1).trans rfl, ((HB.out.cell (World.block_lt_of_cell? w _ hw111_0)).trans hw111_0), ((HB.out.cell (World.block_lt_of_cell? w _ hw113_0)).trans hw113_0)⟩ (fun hHeld => ?_); refine with_tabW impl_IsGraph.tab6 impl_IsGraph.bits6 (fun HT_ HW_ => ?_)
     generalize wr.drew = w28 at BK108 HB hx111_0 hx113_0 hHeld ⊢
     refine pu_ 0 17 (m_ 34 1) ?_
     refine pu_ 1 18 (m_ 34 3) ?_
     refine pu_ 2 19 (m_ 34 7) ?_
     refine pu_ 3 20 (m_ 34 15) ?_
     refine pu_ 5 22 (m_ 34 47) ?_
     refine pu_ 6 23 (m_ 34 111) ?_
     refine tk4_ 4 21 (m_ 34 127) hHeld ?_
     refine tk4_ 7 24 (m_ 34 255) hHeld ?_
     refine on_ 8 25 (m_ 34 511) (fun K hK => ?_)
     refine goes_ Try.func61 (by kernel_rfl) rfl #[.agg #[.int .i64 a0_0, .slice (some ad110) l0_1.length c0_1], .int .i64 (rd (rd_L2 l0_1 x12_1) 0)] (by rfl) rfl rfl ar_ ?_
     with_reducible refine (impl_isClaim.calls a0_0 _ _ l0_1 (rd (rd_L2 l0_1 x12_1) 0) true _ ?side1 ?side2 A12.out).mono ?_
     (case side1 => exact cb_ HR0_1.out)
     (case side2 => exact HC0_1.out)
     rintro e w29 ⟨rfl, hb⟩
     refine ⟨_, rfl, ?_⟩
     replace BK108 := Aside0.mk (Zg (bq_ BK108.out) hb)
     replace HB := Aside0.mk (Zh hB_ hb)
     (try clear hb)
     (try clear hb2)
     (try clear hk)
     (try clear hi)
     refine hK.out _ _ ⟨(Za BK108.out 0).trans rfl, (Za BK108.out 1).trans rfl, ((HB.out.cell (World.block_lt_of_cell? w _ hw111_0)).trans hw111_0), ((HB.out.cell (World.block_lt_of_cell? w _ hw113_0)).trans hw113_0)⟩ (fun hHeld => ?_)
     clear hK K
     refine no_ 25 ?_
     refine pu_ 9 26 (m_ 34 1023) ?_
     refine pu_ 10 27 (m_ 34 2047) ?_
     refine pu_ 11 28 (m_ 34 4095) ?_
     refine pu_ 13 30 (m_ 34 12287) ?_
     refine pu_ 14 31 (m_ 34 28671) ?_
     refine tk4_ 12 29 (m_ 34 32767) hHeld ?_
     refine tk4_ 15 32 (m_ 34 65535) hHeld ?_
     refine on_ 16 33 (m_ 34 131071) (fun K hK => ?_)
     refine goes_ Try.func61 (by kernel_rfl) rfl #[.agg #[.int .i64 a0_0, .slice (some ad110) l0_1.length c0_1], .int .i64 (rd (rd_L2 l0_1 x12_1) 1)] (by rfl) rfl rfl ar_ ?_
     with_reducible refine (impl_isClaim.calls a0_0 _ _ l0_1 (rd (rd_L2 l0_1 x12_1) 1) false _ ?side1 ?side2 A15.out).mono ?_
     (case side1 => exact cb_ HR0_1.out)
     (case side2 => exact HC0_1.out)
     rintro e w30 ⟨rfl, hb⟩
     refine ⟨_, rfl, ?_⟩
     replace BK108 := Aside0.mk (Zg (bq_ BK108.out) hb)
     replace HB := Aside0.mk (Zh hB_ hb)
     (try clear hb)
     (try clear hb2)
     (try clear hk)
     (try clear hi)
     refine hK.out _ _ ⟨(Za BK108.out 0).trans rfl, (Za BK108.out 1).trans rfl, ((HB.out.cell (World.block_lt_of_cell? w _ hw111_0)).trans hw111_0), ((HB.out.cell (World.block_lt_of_cell? w _ hw113_0)).trans hw113_0)⟩ (fun hHeld => ?_)
     clear hK K
     refine no_ 33 ?_
     refine pu_ 17 34 (m_ 34 262143) ?_
     refine pu_ 18 35 (m_ 34 524287) ?_
     refine pu_ 19 36 (m_ 34 1048575) ?_
     refine pn_ 20 37 (m_ 34 2097151) ?_
     refine pn_ 21 38 (m_ 34 4194303) ?_
     refine pn_ 22 39 (m_ 34 8388607) ?_
     refine pn_ 23 40 (m_ 34 16777215) ?_
     refine pn_ 24 41 (m_ 34 33554431) ?_
     refine pn_ 25 42 (m_ 34 67108863) ?_
     refine pn_ 26 43 (m_ 34 134217727) ?_
     refine pn_ 27 44 (m_ 34 268435455) ?_
     refine pn_ 28 45 (m_ 34 536870911) ?_
     refine pn_ 29 46 (m_ 34 1073741823) ?_
     refine pn_ 30 47 (m_ 34 2147483647) ?_
     refine pn_ 31 48 (m_ 34 4294967295) ?_
     refine pn_ 32 49 (m_ 34 8589934591) ?_
     refine pu_ 33 50 (m_ 34 17179869183) ?_
     refine done_ (done_of HT_.out (by kernel_rfl)) ?_
     try go_wp2
     go_meet
     case rel => exact ⟨_, (true), sm_, H', ⟨by have := HK1.out; first | omega | exact Nat.le_refl _⟩, ⟨bk_ BK108.out⟩, ⟨hB_⟩⟩
    subst c16
    rw [if_pos rfl] at H
    try dsimp only at H
    by_cases c17 : x12_1 > 0
    rotate_left
    ·rw [if_neg c17] at H
     have c17b0 : decide (0 < x12_1) = false := decide_eq_false c17
     clear c17
     have H' := Aside0.mk H
     clear H
     try go_wp2
     replace BK108 := Aside0.mk (Zf BK108.out)
     replace HB := Aside0.mk (Zj HB.out)
     have p111 : 0 ≤ (0 : Int) := (by omega)
     have q111 : 0 < ((rd_L2 l0_1 x12_1).length : Int) := of_decide_eq_true as_
     obtain ⟨ad111, e111, hx111_0⟩ := Zx HR110_0.out 0 p111 q111
     have hw111_0 := hx111_0
     (try rw [show ((0 : Int)).toNat = 0 from rfl] at hw111_0)
     (try rw [show 0 * 1 = 0 from rfl] at hw111_0)
     (try rw [Addr.add_zero'] at hw111_0)
     cases e111
     have qi111 : (0 < (rd_L2 l0_1 x12_1).length) = True := eq_true (by omega)
     (try rw [show ((0 : Int)).toNat = 0 from rfl] at hx111_0)
     (try rw [Addr.add_zero'] at hx111_0)
     replace hx111_0 := (HB.out.cell (World.block_lt_of_cell? w _ hx111_0)).trans hx111_0
     replace p111 := eq_true p111
     replace q111 := eq_true q111
     have p113 : 0 ≤ (1 : Int) := (by omega)
     have q113 : 1 < ((rd_L2 l0_1 x12_1).length : Int) := of_decide_eq_true as_
     obtain ⟨ad113, e113, hx113_0⟩ := Zx HR110_0.out 1 p113 q113
     have hw113_0 := hx113_0
     (try rw [show ((1 : Int)).toNat = 1 from rfl] at hw113_0)
     (try rw [show 1 * 1 = 1 from rfl] at hw113_0)
     (try simp only [Nat.reduceMul, Nat.reduceEqDiff, Go.Addr.add, ↓reduceIte] at hw113_0)
     obtain rfl : ad111 = ad113 := (by injection e113)
     (try simp only [show (1 : Int).toNat = 1 from rfl, Nat.reduceMul, Nat.reduceEqDiff, Go.Addr.add, ↓reduceIte] at hx113_0)
     have qi113 : (1 < (rd_L2 l0_1 x12_1).length) = True := eq_true (by omega)
     (try rw [show ((1 : Int)).toNat = 1 from rfl] at hx113_0)
     replace hx113_0 := (HB.out.cell (World.block_lt_of_cell? w _ hx113_0)).trans hx113_0
     replace p113 := eq_true p113
     replace q113 := eq_true q113
     refine start_ (n := 34) (S := fun w' => w'.cell? ⟨gb108, 0, none⟩ = some (.int .i64 a0_0) ∧ w'.cell? ⟨gb108, 1, none⟩ = some (.slice (some ad110) l0_1.length c0_1) ∧ w'.cell? ad111 = some (.int .i64 (rd (rd_L2 l0_1 x12_1) 0)) ∧ w'.cell? ⟨ad111.block, ad111.off + 1, none⟩ = some (.int .i64 (rd (rd_L2 l0_1 x12_1) 1))) (ds := []) (m_ 34 0) (by kernel_rfl) rfl rfl ⟨(Za BK108.out 0).trans rfl, (Za BK108.out 1).trans rfl, ((HB.out.cell (World.block_lt_of_cell? w _ hw111_0)).trans hw111_0), ((HB.out.cell (World.block_lt_of_cell? w _ hw113_0)).trans hw113_0)⟩ (fun hHeld => ?_); refine with_tabW impl_IsGraph.tab6 impl_IsGraph.bits6 (fun HT_ HW_ => ?_)
     generalize wr.drew = w25 at BK108 HB hx111_0 hx113_0 hHeld ⊢
     refine pu_ 0 17 (m_ 34 1) ?_
     refine pu_ 1 18 (m_ 34 3) ?_
     refine pu_ 2 19 (m_ 34 7) ?_
     refine pu_ 3 20 (m_ 34 15) ?_
     refine pu_ 5 22 (m_ 34 47) ?_
     refine pu_ 6 23 (m_ 34 111) ?_
     refine tk4_ 4 21 (m_ 34 127) hHeld ?_
     refine tk4_ 7 24 (m_ 34 255) hHeld ?_
     refine on_ 8 25 (m_ 34 511) (fun K hK => ?_)
     refine goes_ Try.func61 (by kernel_rfl) rfl #[.agg #[.int .i64 a0_0, .slice (some ad110) l0_1.length c0_1], .int .i64 (rd (rd_L2 l0_1 x12_1) 0)] (by rfl) rfl rfl ar_ ?_
     with_reducible refine (impl_isClaim.calls a0_0 _ _ l0_1 (rd (rd_L2 l0_1 x12_1) 0) true _ ?side1 ?side2 A12.out).mono ?_
     (case side1 => exact cb_ HR0_1.out)
     (case side2 => exact HC0_1.out)
     rintro e w26 ⟨rfl, hb⟩
     refine ⟨_, rfl, ?_⟩
     replace BK108 := Aside0.mk (Zg (bq_ BK108.out) hb)
     replace HB := Aside0.mk (Zh hB_ hb)
     (try clear hb)
     (try clear hb2)
     (try clear hk)
     (try clear hi)
     refine hK.out _ _ ⟨(Za BK108.out 0).trans rfl, (Za BK108.out 1).trans rfl, ((HB.out.cell (World.block_lt_of_cell? w _ hw111_0)).trans hw111_0), ((HB.out.cell (World.block_lt_of_cell? w _ hw113_0)).trans hw113_0)⟩ (fun hHeld => ?_)
     clear hK K
     refine no_ 25 ?_
     refine pu_ 9 26 (m_ 34 1023) ?_
     refine pu_ 10 27 (m_ 34 2047) ?_
     refine pu_ 11 28 (m_ 34 4095) ?_
     refine pu_ 13 30 (m_ 34 12287) ?_
     refine pu_ 14 31 (m_ 34 28671) ?_
     refine tk4_ 12 29 (m_ 34 32767) hHeld ?_
     refine tk4_ 15 32 (m_ 34 65535) hHeld ?_
     refine on_ 16 33 (m_ 34 131071) (fun K hK => ?_)
     refine goes_ Try.func61 (by kernel_rfl) rfl #[.agg #[.int .i64 a0_0, .slice (some ad110) l0_1.length c0_1], .int .i64 (rd (rd_L2 l0_1 x12_1) 1)] (by rfl) rfl rfl ar_ ?_
     with_reducible refine (impl_isClaim.calls a0_0 _ _ l0_1 (rd (rd_L2 l0_1 x12_1) 1) true _ ?side1 ?side2 A15.out).mono ?_
     (case side1 => exact cb_ HR0_1.out)
     (case side2 => exact HC0_1.out)
     rintro e w27 ⟨rfl, hb⟩
     refine ⟨_, rfl, ?_⟩
     replace BK108 := Aside0.mk (Zg (bq_ BK108.out) hb)
     replace HB := Aside0.mk (Zh hB_ hb)
     (try clear hb)
     (try clear hb2)
     (try clear hk)
     (try clear hi)
     refine hK.out _ _ ⟨(Za BK108.out 0).trans rfl, (Za BK108.out 1).trans rfl, ((HB.out.cell (World.block_lt_of_cell? w _ hw111_0)).trans hw111_0), ((HB.out.cell (World.block_lt_of_cell? w _ hw113_0)).trans hw113_0)⟩ (fun hHeld => ?_)
     clear hK K
     refine no_ 33 ?_
     refine pu_ 17 34 (m_ 34 262143) ?_
     refine pu_ 18 35 (m_ 34 524287) ?_
     refine pu_ 19 36 (m_ 34 1048575) ?_
     refine pu_ 20 37 (m_ 34 2097151) ?_
     refine pu_ 21 38 (m_ 34 4194303) ?_
     refine pu_ 22 39 (m_ 34 8388607) ?_
     refine pn_ 23 40 (m_ 34 16777215) ?_
     refine pn_ 24 41 (m_ 34 33554431) ?_
     refine pn_ 25 42 (m_ 34 67108863) ?_
     refine pn_ 26 43 (m_ 34 134217727) ?_
     refine pn_ 27 44 (m_ 34 268435455) ?_
     refine pn_ 28 45 (m_ 34 536870911) ?_
     refine pn_ 29 46 (m_ 34 1073741823) ?_
     refine pn_ 30 47 (m_ 34 2147483647) ?_
     refine pn_ 31 48 (m_ 34 4294967295) ?_
     refine pu_ 32 49 (m_ 34 8589934591) ?_
     refine pu_ 33 50 (m_ 34 17179869183) ?_
     refine done_ (done_of HT_.out (by kernel_rfl)) ?_
     try go_wp2
     go_meet
     case rel => exact ⟨_, (false), sm_, H', ⟨by have := HK1.out; first | omega | exact Nat.le_refl _⟩, ⟨bk_ BK108.out⟩, ⟨hB_⟩⟩
    rw [if_pos c17] at H
    have c17b0 : decide (0 < x12_1) = true := decide_eq_true c17
    clear c17
    obtain ⟨ji18, hji18⟩ : ∃ j_ : Int, (wrap64 (x12_1 - 1)) = j_ := ⟨_, rfl⟩
    replace H : (if 0 ≤ (ji18) then (if (ji18) < (l0_1.length : Int) then ((slices_Compare_int_int.f k1 (rd_L2 l0_1 (ji18)) (rd_L2 l0_1 x12_1)).bind fun t116 => (impl_IsGraph.j1 k1 l0_1 (l0_1.length : Int) x12_1 (decide (t116 ≥ 0)) a0_0 l0_1)) else (none)) else (none)) = some r := by first | (rw [hji18] at H; exact H) | (simp only [hji18] at H ⊢; exact H)
    (try rw [hji18] at A12)
    (try rw [hji18] at A15)
    have hji18w : (IntKind.i64.wrap (x12_1 - 1)) = ji18 := (i64_w _).trans hji18
    by_cases c19 : 0 ≤ (ji18)
    rotate_left
    ·rw [if_neg c19] at H
     exact absurd H (by simp)
    rw [if_pos c19] at H
    have c19b0 : decide (0 ≤ (ji18)) = true := decide_eq_true c19
    clear c19
    by_cases c20 : (ji18) < (l0_1.length : Int)
    rotate_left
    ·rw [if_neg c20] at H
     exact absurd H (by simp)
    rw [if_pos c20] at H
    have c20b0 : decide ((ji18) < (l0_1.length : Int)) = true := decide_eq_true c20
    clear c20
    obtain ⟨t116, A21, H⟩ := bd_ H
    try dsimp only at H
    have H' := Aside0.mk H
    clear H
    try go_wp2
    replace BK108 := Aside0.mk (Zf BK108.out)
    replace HB := Aside0.mk (Zj HB.out)
    have p111 : 0 ≤ (0 : Int) := (by omega)
    have q111 : 0 < ((rd_L2 l0_1 x12_1).length : Int) := of_decide_eq_true as_
    obtain ⟨ad111, e111, hx111_0⟩ := Zx HR110_0.out 0 p111 q111
    have hw111_0 := hx111_0
    (try rw [show ((0 : Int)).toNat = 0 from rfl] at hw111_0)
    (try rw [show 0 * 1 = 0 from rfl] at hw111_0)
    (try rw [Addr.add_zero'] at hw111_0)
    cases e111
    have qi111 : (0 < (rd_L2 l0_1 x12_1).length) = True := eq_true (by omega)
    (try rw [show ((0 : Int)).toNat = 0 from rfl] at hx111_0)
    (try rw [Addr.add_zero'] at hx111_0)
    replace hx111_0 := (HB.out.cell (World.block_lt_of_cell? w _ hx111_0)).trans hx111_0
    replace p111 := eq_true p111
    replace q111 := eq_true q111
    have p113 : 0 ≤ (1 : Int) := (by omega)
    have q113 : 1 < ((rd_L2 l0_1 x12_1).length : Int) := of_decide_eq_true as_
    obtain ⟨ad113, e113, hx113_0⟩ := Zx HR110_0.out 1 p113 q113
    have hw113_0 := hx113_0
    (try rw [show ((1 : Int)).toNat = 1 from rfl] at hw113_0)
    (try rw [show 1 * 1 = 1 from rfl] at hw113_0)
    (try simp only [Nat.reduceMul, Nat.reduceEqDiff, Go.Addr.add, ↓reduceIte] at hw113_0)
    obtain rfl : ad111 = ad113 := (by injection e113)
    (try simp only [show (1 : Int).toNat = 1 from rfl, Nat.reduceMul, Nat.reduceEqDiff, Go.Addr.add, ↓reduceIte] at hx113_0)
    have qi113 : (1 < (rd_L2 l0_1 x12_1).length) = True := eq_true (by omega)
    (try rw [show ((1 : Int)).toNat = 1 from rfl] at hx113_0)
    replace hx113_0 := (HB.out.cell (World.block_lt_of_cell? w _ hx113_0)).trans hx113_0
    replace p113 := eq_true p113
    replace q113 := eq_true q113
    have p115 : 0 ≤ ((ji18) : Int) := of_decide_eq_true as_
    have q115 : (ji18) < (l0_1.length : Int) := of_decide_eq_true as_
    obtain ⟨ad115, A115_0, c115_0, e115, hx115_0, hl115_0, hi115_0⟩ := at_L2 HR0_1.out (ji18) p115 q115
    have hw115_0 := hx115_0
    obtain rfl : ad110 = ad115 := (by injection e115)
    replace hx115_0 := (HB.out.cell (World.block_lt_of_cell? w _ hx115_0)).trans hx115_0
    have HR115_0 := Aside0.mk hi115_0
    have HC115_0 := Aside0.mk hl115_0
    clear hi115_0 hl115_0
    replace p115 := eq_true p115
    replace q115 := eq_true q115
    refine start_ (n := 34) (S := fun w' => w'.cell? ⟨gb108, 0, none⟩ = some (.int .i64 a0_0) ∧ w'.cell? ⟨gb108, 1, none⟩ = some (.slice (some ad110) l0_1.length c0_1) ∧ w'.cell? ad111 = some (.int .i64 (rd (rd_L2 l0_1 x12_1) 0)) ∧ w'.cell? ⟨ad111.block, ad111.off + 1, none⟩ = some (.int .i64 (rd (rd_L2 l0_1 x12_1) 1)) ∧ w'.cell? (ad110.add ((ji18)).toNat) = some (.slice A115_0 (rd_L2 l0_1 (ji18)).length c115_0)) (ds := []) (m_ 34 0) (by kernel_rfl) rfl rfl ⟨(Za BK108.out 0).trans rfl, (Za BK108.out 1).trans rfl, ((HB.out.cell (World.block_lt_of_cell? w _ hw111_0)).trans hw111_0), ((HB.out.cell (World.block_lt_of_cell? w _ hw113_0)).trans hw113_0), ((HB.out.cell (World.block_lt_of_cell? w _ hw115_0)).trans hw115_0)⟩ (fun hHeld => ?_); refine with_tabW impl_IsGraph.tab6 impl_IsGraph.bits6 (fun HT_ HW_ => ?_)
    generalize wr.drew = w22 at BK108 HB HR115_0 hx111_0 hx113_0 hx115_0 hHeld ⊢
    refine pu_ 0 17 (m_ 34 1) ?_
    refine pu_ 1 18 (m_ 34 3) ?_
    refine pu_ 2 19 (m_ 34 7) ?_
    refine pu_ 3 20 (m_ 34 15) ?_
    refine pu_ 5 22 (m_ 34 47) ?_
    refine pu_ 6 23 (m_ 34 111) ?_
    refine tk5_ 4 21 (m_ 34 127) hHeld ?_
    refine tk5_ 7 24 (m_ 34 255) hHeld ?_
    refine on_ 8 25 (m_ 34 511) (fun K hK => ?_)
    refine goes_ Try.func61 (by kernel_rfl) rfl #[.agg #[.int .i64 a0_0, .slice (some ad110) l0_1.length c0_1], .int .i64 (rd (rd_L2 l0_1 x12_1) 0)] (by rfl) rfl rfl ar_ ?_
    with_reducible refine (impl_isClaim.calls a0_0 _ _ l0_1 (rd (rd_L2 l0_1 x12_1) 0) true _ ?side1 ?side2 A12.out).mono ?_
    (case side1 => exact cb_ HR0_1.out)
    (case side2 => exact HC0_1.out)
    rintro e w23 ⟨rfl, hb⟩
    refine ⟨_, rfl, ?_⟩
    replace BK108 := Aside0.mk (Zg (bq_ BK108.out) hb)
    replace HB := Aside0.mk (Zh hB_ hb)
    (try clear hb)
    (try clear hb2)
    (try clear hk)
    (try clear hi)
    refine hK.out _ _ ⟨(Za BK108.out 0).trans rfl, (Za BK108.out 1).trans rfl, ((HB.out.cell (World.block_lt_of_cell? w _ hw111_0)).trans hw111_0), ((HB.out.cell (World.block_lt_of_cell? w _ hw113_0)).trans hw113_0), ((HB.out.cell (World.block_lt_of_cell? w _ hw115_0)).trans hw115_0)⟩ (fun hHeld => ?_)
    clear hK K
    refine no_ 25 ?_
    refine pu_ 9 26 (m_ 34 1023) ?_
    refine pu_ 10 27 (m_ 34 2047) ?_
    refine pu_ 11 28 (m_ 34 4095) ?_
    refine pu_ 13 30 (m_ 34 12287) ?_
    refine pu_ 14 31 (m_ 34 28671) ?_
    refine tk5_ 12 29 (m_ 34 32767) hHeld ?_
    refine tk5_ 15 32 (m_ 34 65535) hHeld ?_
    refine on_ 16 33 (m_ 34 131071) (fun K hK => ?_)
    refine goes_ Try.func61 (by kernel_rfl) rfl #[.agg #[.int .i64 a0_0, .slice (some ad110) l0_1.length c0_1], .int .i64 (rd (rd_L2 l0_1 x12_1) 1)] (by rfl) rfl rfl ar_ ?_
    with_reducible refine (impl_isClaim.calls a0_0 _ _ l0_1 (rd (rd_L2 l0_1 x12_1) 1) true _ ?side1 ?side2 A15.out).mono ?_
    (case side1 => exact cb_ HR0_1.out)
    (case side2 => exact HC0_1.out)
    rintro e w24 ⟨rfl, hb⟩
    refine ⟨_, rfl, ?_⟩
    replace BK108 := Aside0.mk (Zg (bq_ BK108.out) hb)
    replace HB := Aside0.mk (Zh hB_ hb)
    (try clear hb)
    (try clear hb2)
    (try clear hk)
    (try clear hi)
    refine hK.out _ _ ⟨(Za BK108.out 0).trans rfl, (Za BK108.out 1).trans rfl, ((HB.out.cell (World.block_lt_of_cell? w _ hw111_0)).trans hw111_0), ((HB.out.cell (World.block_lt_of_cell? w _ hw113_0)).trans hw113_0), ((HB.out.cell (World.block_lt_of_cell? w _ hw115_0)).trans hw115_0)⟩ (fun hHeld => ?_)
    clear hK K
    refine no_ 33 ?_
    refine pu_ 17 34 (m_ 34 262143) ?_
    refine pu_ 18 35 (m_ 34 524287) ?_
    refine pu_ 19 36 (m_ 34 1048575) ?_
    refine pu_ 20 37 (m_ 34 2097151) ?_
    refine pu_ 21 38 (m_ 34 4194303) ?_
    refine pu_ 22 39 (m_ 34 8388607) ?_
    refine pu_ 23 40 (m_ 34 16777215) ?_
    refine pu_ 25 42 (m_ 34 50331647) ?_
    refine pu_ 26 43 (m_ 34 117440511) ?_
    refine pu_ 29 46 (m_ 34 654311423) ?_
    refine tk5_ 24 41 (m_ 34 671088639) hHeld ?_
    refine pu_ 27 44 (m_ 34 805306367) ?_
    refine tk5_ 28 45 (m_ 34 1073741823) hHeld ?_
    refine on_ 30 47 (m_ 34 2147483647) (fun K hK => ?_)
    refine goes_ Try.func67 (by kernel_rfl) rfl #[.slice A115_0 (rd_L2 l0_1 (ji18)).length c115_0, .slice (some ad111) (rd_L2 l0_1 x12_1).length c110_0] (by rfl) rfl rfl (by (try simp only [List.map_toArray, List.map_cons, List.map_nil]); first | done | (simp only [hji18]; rfl) | rfl | (simp only [List.length_drop, List.length_take]; rfl)) ?_
    with_reducible refine (slices_Compare_int_int.calls k1 _ _ (rd_L2 l0_1 (ji18)) _ _ (rd_L2 l0_1 x12_1) t116 _ ?side1 ?side2 ?side3 ?side4 A21.out).mono ?_
    (case side1 => exact cb_ HR115_0.out)
    (case side2 => exact HC115_0.out)
    (case side3 => exact cb_ HR110_0.out)
    (case side4 => exact HC110_0.out)
    rintro e w' ⟨rfl, ⟨nd, rfl⟩⟩
    refine ⟨_, rfl, ?_⟩
    refine hK.out _ _ ⟨(Za BK108.out 0).trans rfl, (Za BK108.out 1).trans rfl, ((HB.out.cell (World.block_lt_of_cell? w _ hw111_0)).trans hw111_0), ((HB.out.cell (World.block_lt_of_cell? w _ hw113_0)).trans hw113_0), ((HB.out.cell (World.block_lt_of_cell? w _ hw115_0)).trans hw115_0)⟩ (fun hHeld => ?_)
    clear hK K
    refine no_ 47 ?_
    refine pu_ 31 48 (m_ 34 4294967295) ?_
    refine pu_ 32 49 (m_ 34 8589934591) ?_
    refine pu_ 33 50 (m_ 34 17179869183) ?_
    refine done_ (done_of HT_.out (by kernel_rfl)) ?_
    try go_wp2
    go_meet
    case rel => exact ⟨_, (decide (t116 ≥ 0)), sm_, H', ⟨by have := HK1.out; first | omega | exact Nat.le_refl _⟩, ⟨bk_ BK108.out⟩, ⟨hB_⟩⟩
   case rest =>
    clear HC9
    try clear c1
    try clear p1
    try clear q1
    try clear hx1
    try clear qi1
    try clear p2
    try clear c6
    try clear c10
    try clear c10b0
    try clear c10b1
    try clear c11
    try clear p11
    try clear q11
    try clear hx11
    try clear qi11
    try clear c13
    try clear c14
    try clear hx111_0
    try clear p111
    try clear q111
    obtain ⟨kq, x50_8, rfl, HA, HJ8, BK108, HB⟩ := hcut
    cases kq with
    | zero => exact absurd HA.out (by simp [impl_IsGraph.j1])
    | succ kj8 =>
     have H := HA.out
     clear HA
     simp only [impl_IsGraph.j1] at H
     by_cases c34 : x50_8 = true
     ·subst c34
      rw [if_pos rfl] at H
      try dsimp only at H
      obtain rfl := Option.some.inj H
      go_wp2
      go_ret
      exact ⟨er_, hB_⟩
     replace c34 := Bool.eq_false_iff.mpr c34
     subst c34
     rw [if_neg (show ¬ (false = true) by decide)] at H
     try dsimp only at H
     have H' := Aside0.mk H
     clear H
     go_wp2
     go_roundg kj8
     case measure => have := HK1.out; have := HJ8.out; omega
     case rel => exact ⟨(wrap64 (x12_1 + 1)), sm_, H', ⟨by have := HK1.out; have := HJ8.out; omega⟩, ⟨bk_ BK108.out⟩, ⟨hB_⟩⟩

end Go.Proofs.Ytdlobolnajcfnaa.PFnDisputes
