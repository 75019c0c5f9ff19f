-- Written by a program of this session (hooks of mine on the print): Lean checks it.
import Derived.Test.YtdlobolnajcfnaaPFnDisputesx0
import Derived.Test.YtdlobolnajcfnaaPFnDisputesx5
import Derived.Test.YtdlobolnajcfnaaPFnDisputesx6
import Derived.Test.YtdlobolnajcfnaaPFnDisputesx8
namespace Go.Proofs.Ytdlobolnajcfnaa.PFnDisputes
open Go.RowKit Go.Proofs.YtdlobolnajcfnaaW.PrintWords Go.Proofs.YtdlobolnajcfnaaW.PrintLast Go.Proofs.YtdlobolnajcfnaaW.PrintMore
attribute [local go_sem] max2_int min2_int max_two min_two max_three min_three max_four min_four   -- for this text's walks alone
set_option linter.unusedVariables false
set_option linter.unusedSimpArgs false
set_option maxHeartbeats 8000000
set_option maxRecDepth 100000

/-! ### spec_l4Draw: function 120 -/
def spec_l4Draw.l0 : Nat → Int → List Int → Int → Int → Int → List (List Int) → Option (Int × (List (List Int)) × Int × Int)
 | 0, _, _, _, _, _, _ => none
 | k + 1, x4, x1000, x1001, x1002, x297000, x297001 => if x4 > 0 then ((spec_l1Below.f x1000 x1001 x1002 x297000).bind fun bt300 => ((spec_l1Below.f x1000 bt300.2.1 bt300.2.2 x297000).bind fun bt303 => ((spec_AddAttack.f k x297000 x297001 bt300.1 bt303.1).bind fun bt306 => (spec_l4Draw.l0 k (wrap64 (x4 - 1)) x1000 bt303.2.1 bt303.2.2 bt306.1 bt306.2.1)))) else (some (x297000, x297001, x1001, x1002))
def spec_l4Draw.f (k : Nat) (s0_0 : List Int) (s0_1 : Int) (s0_2 : Int) : Option (Int × (List (List Int)) × Int × Int) := (spec_l1Below.f s0_0 s0_1 s0_2 6).bind fun bt293 => ((spec_l1Below.f s0_0 bt293.2.1 bt293.2.2 10).bind fun bt297 => (spec_l4Draw.l0 k bt297.1 s0_0 bt297.2.1 bt297.2.2 (wrap64 (1 + bt293.1)) ([] : List (List Int))))
theorem spec_l4Draw.mono_l : ∀ k, (∀ y0 y1 y2 y3 y4 y5, LeO (spec_l4Draw.l0 k y0 y1 y2 y3 y4 y5) (spec_l4Draw.l0 (k + 1) y0 y1 y2 y3 y4 y5))
 | 0 => fun _ _ _ _ _ _ r h => by simp [spec_l4Draw.l0] at h
 | k + 1 => by
  have ih0 := spec_l4Draw.mono_l k
  ·intro y0 y1 y2 y3 y4 y5
   unfold spec_l4Draw.l0
   repeat' with_reducible first | apply ih0 | apply spec_AddAttack.mono | apply ZJ | apply Zn | refine Zu ?_ ?_ | refine Zo ?_ (fun _ => ?_)
theorem spec_l4Draw.mono : ∀ a0 a1 a2 k, LeO (spec_l4Draw.f k a0 a1 a2) (spec_l4Draw.f (k + 1) a0 a1 a2) := by
 intro a0 a1 a2 k
 have ih0 := spec_l4Draw.mono_l k
 unfold spec_l4Draw.f
 repeat' with_reducible first | apply ih0 | apply spec_AddAttack.mono | apply ZJ | apply Zn | refine Zu ?_ ?_ | refine Zo ?_ (fun _ => ?_)
def spec_l4Draw.T5 : Bool × List (List Nat × List Nat) := (true, [([], []), ([], []), ([], []), ([2], [2]), ([1, 3], [1, 3]), ([], []), ([], []), ([6], [6]), ([5, 7, 4], [5, 7]), ([0, 4, 8, 8], [0, 4, 8]), ([9], [9]), ([10], [10]), ([10], [10]), ([11, 9, 0, 1, 2, 3, 4, 5, 6, 7, 8, 9, 10, 11], [11])])
def spec_l4Draw.B5 : List Nat := [0, 0, 0, 4, 14, 0, 0, 64, 254, 511, 1023, 2047, 2047, 4095]
theorem spec_l4Draw.tab5 : rtab .any (opsOf Try.f120 5) = spec_l4Draw.T5 := by kernel_rfl
theorem spec_l4Draw.bits5 : waitsOk spec_l4Draw.T5.2 spec_l4Draw.B5 = true := by kernel_rfl
theorem spec_l4Draw.calls (k : Nat) (g : Nat) (s0_0 : List Int) (s0_1 : Int) (s0_2 : Int) (r1 : Int) (r2 : List (List Int)) (r3 : Int) (r4 : Int) (w0 w : World) (hI : IsS93 w0 w g s0_0 s0_1 s0_2) (hB : Below w0.heap.size w0 w) (h : spec_l4Draw.f k s0_0 s0_1 s0_2 = some (r1, r2, r3, r4)) :
  Calls Try.prog 120 #[.pointer (some ⟨g, 0, none⟩)] w fun e w' => ∃ v1_ : Value, e = .returned (.agg #[.int .i64 r1, v1_]) ∧ Kd.S (Kd.slice 3 (Kd.int .i64)) 31 w' w.heap.size (fun _ => True) v1_ r2 ∧ IsS93 w0 w' g s0_0 r3 r4 ∧ Below w0.heap.size w0 w' ∧ KeepBut w w' g none := by
 have hu27 := Try.underlying27
 have HI0 := Aside0.mk hI
 have HK := Aside0.mk (KeepBut.refl w g none)
 have HL := Aside0.mk hB.size
 clear hI
 have HW0 := Aside0.mk hB.size
 have HB := Aside0.mk hB
 clear hB
 have H := h
 unfold spec_l4Draw.f at H
 clear h
 obtain ⟨⟨t293, t294, t295⟩, A2, H⟩ := bd_ H
 try dsimp only at H
 obtain ⟨⟨t297, t298, t299⟩, A3, H⟩ := bd_ H
 try dsimp only at H
 have H' := Aside0.mk H
 clear H
 go_enter Try.func120, Try.ntmps120
 go_wp2_with (first | ((with_reducible refine ZA (N := 2) rfl ?_); refine ZC ?hg (N := 2) ?hd (cs := #[.int .i64 0, .slice none 0 0]) (t := 27) ?hr ?_; (case hd => rfl); (case hg => rfl); (case hr => first | (go_simp; done) | (go_simp; rfl)); intro gb292 hg w4 hbox hb; replace HB := Aside0.mk (Zh (by repeat (first | (with_reducible first | exact HB.out | apply Zk | apply Zi | apply Zj | refine Zc ?_ (IsS93.ge HI0.out)) | exact HB.out)) hb); have BK292 := Aside0.mk (hbox); have GW292 := Aside0.mk ((by rw [hg]; exact (keep_size (w := w) (g := g) (row := none) (qA_ HK.out)) : w.heap.size ≤ gb292)); have GE292 := Aside0.mk ((Nat.le_trans HW0.out (by rw [hg]; exact (keep_size (w := w) (g := g) (row := none) (qA_ HK.out)) : w.heap.size ≤ gb292) : w0.heap.size ≤ gb292)); replace HK := Aside0.mk (KeepBut.trans (qA_ HK.out) (KeepBut.of_below hb g none) (.inl rfl)); have NB0_292 := Aside0.mk ((by rw [hg]; exact Nat.ne_of_lt (IsS93.lt (show IsS93 w0 _ g s0_0 s0_1 s0_2 from by exact qB_ HI0.out)) : g ≠ gb292)); have NB292_0 := Aside0.mk ((by rw [hg]; exact Nat.ne_of_gt (IsS93.lt (show IsS93 w0 _ g s0_0 s0_1 s0_2 from by exact qB_ HI0.out)) : gb292 ≠ g)); replace HI0 := Aside0.mk (IsS93.below (qB_ HI0.out) hb); clear hb hbox hg) | ((with_reducible refine Zl (f := 84) rfl ?_); refine ZI (some 6) rfl rfl Try.func84 (by kernel_rfl) rfl #[.pointer (some ⟨g, 0, none⟩), .int .i64 6] rfl ar_ ?_; (with_reducible refine (spec_l1Below.calls g s0_0 s0_1 s0_2 6 t293 t294 t295 w0 _ ?side1 ?side2 A2.out).mono ?_); (case side1 => repeat (first | (with_reducible first | exact HI0.out | apply IsS93.alloc | apply IsS93.drewN | apply IsS93.drew | apply IsS93.set_1 | apply IsS93.set_2 | refine IsS93.far ?_ NB0_292.out _) | exact HI0.out)); (case side2 => repeat (first | (with_reducible first | exact HB.out | apply Zk | apply Zi | apply Zj | refine Zc ?_ (IsS93.ge HI0.out) | refine Zc ?_ GE292.out) | exact HB.out)); rintro e w5 ⟨rfl, hi, hb, hk⟩; refine ⟨_, rfl, ?_⟩; replace BK292 := Aside0.mk (ZR hk (g' := gb292) (o := .cells #[.int .i64 0, .slice none 0 0] 27 (0, 0)) (bk_ BK292.out) NB292_0.out (by simp)); replace HK := Aside0.mk (KeepBut.trans (by repeat (first | (with_reducible first | exact HK.out | apply Zy | apply ZD | apply ZL | apply ZE | refine ZV ?_ GW292.out _) | exact HK.out)) hk (.inl rfl)); replace HB := Aside0.mk (hb); replace HI0 := Aside0.mk (hi); (try clear hb); (try clear hk); (try clear hi)) | ((with_reducible refine ZA (N := 3) rfl ?_); refine ZC ?hg (N := 3) ?hd (cs := #[.int .i64 0, .slice none 0 0]) (t := 27) ?hr ?_; (case hd => rfl); (case hg => rfl); (case hr => first | (go_simp; done) | (go_simp; rfl)); intro gb296 hg w6 hbox hb; replace HB := Aside0.mk (Zh (by repeat (first | (with_reducible first | exact HB.out | apply Zk | apply Zi | apply Zj | refine Zc ?_ (IsS93.ge HI0.out) | refine Zc ?_ GE292.out) | exact HB.out)) hb); have BK296 := Aside0.mk (hbox); have GW296 := Aside0.mk ((by rw [hg]; exact (keep_size (w := w) (g := g) (row := none) (by repeat (first | (with_reducible first | exact HK.out | apply Zy | apply ZD | apply ZL | apply ZE | refine ZV ?_ GW292.out _) | exact HK.out))) : w.heap.size ≤ gb296)); have GE296 := Aside0.mk ((Nat.le_trans HW0.out (by rw [hg]; exact (keep_size (w := w) (g := g) (row := none) (by repeat (first | (with_reducible first | exact HK.out | apply Zy | apply ZD | apply ZL | apply ZE | refine ZV ?_ GW292.out _) | exact HK.out))) : w.heap.size ≤ gb296) : w0.heap.size ≤ gb296)); replace HK := Aside0.mk (KeepBut.trans (by repeat (first | (with_reducible first | exact HK.out | apply Zy | apply ZD | apply ZL | apply ZE | refine ZV ?_ GW292.out _) | exact HK.out)) (KeepBut.of_below hb g none) (.inl rfl)); have NB292_296 := Aside0.mk ((by rw [hg]; exact Nat.ne_of_lt (ZS (bq_ BK292.out)) : gb292 ≠ gb296)); have NB296_292 := Aside0.mk ((by rw [hg]; exact Nat.ne_of_gt (ZS (bq_ BK292.out)) : gb296 ≠ gb292)); replace BK292 := Aside0.mk (Zg (bq_ BK292.out) hb); have NB0_296 := Aside0.mk ((by rw [hg]; exact Nat.ne_of_lt (IsS93.lt (show IsS93 w0 _ g s0_0 t294 t295 from by repeat (first | (with_reducible first | exact HI0.out | apply IsS93.alloc | apply IsS93.drewN | apply IsS93.drew | apply IsS93.set_1 | apply IsS93.set_2 | refine IsS93.far ?_ NB0_292.out _) | exact HI0.out))) : g ≠ gb296)); have NB296_0 := Aside0.mk ((by rw [hg]; exact Nat.ne_of_gt (IsS93.lt (show IsS93 w0 _ g s0_0 t294 t295 from by repeat (first | (with_reducible first | exact HI0.out | apply IsS93.alloc | apply IsS93.drewN | apply IsS93.drew | apply IsS93.set_1 | apply IsS93.set_2 | refine IsS93.far ?_ NB0_292.out _) | exact HI0.out))) : gb296 ≠ g)); replace HI0 := Aside0.mk (IsS93.below (by repeat (first | (with_reducible first | exact HI0.out | apply IsS93.alloc | apply IsS93.drewN | apply IsS93.drew | apply IsS93.set_1 | apply IsS93.set_2 | refine IsS93.far ?_ NB0_292.out _) | exact HI0.out)) hb); clear hb hbox hg; have hnb7 := NB296_292.out; have hnc7 := NB292_296.out; have hnb8 := NB296_0.out; have hnc8 := NB0_296.out; obtain ⟨hcz9_0, hcz9_1, hfz9_0, hfz9_1⟩ := c2_ BK296.out) | ((with_reducible refine Zl (f := 84) rfl ?_); refine ZI (some 10) rfl rfl Try.func84 (by kernel_rfl) rfl #[.pointer (some ⟨g, 0, none⟩), .int .i64 10] rfl ar_ ?_; (with_reducible refine (spec_l1Below.calls g s0_0 t294 t295 10 t297 t298 t299 w0 _ ?side1 ?side2 A3.out).mono ?_); (case side1 => repeat (first | (with_reducible first | exact HI0.out | apply IsS93.alloc | apply IsS93.drewN | apply IsS93.drew | apply IsS93.set_1 | apply IsS93.set_2 | refine IsS93.far ?_ NB0_292.out _ | refine IsS93.far ?_ NB0_296.out _) | exact HI0.out)); (case side2 => repeat (first | (with_reducible first | exact HB.out | apply Zk | apply Zi | apply Zj | refine Zc ?_ (IsS93.ge HI0.out) | refine Zc ?_ GE292.out | refine Zc ?_ GE296.out) | exact HB.out)); rintro e w10 ⟨rfl, hi, hb, hk⟩; refine ⟨_, rfl, ?_⟩; replace BK292 := Aside0.mk (ZR hk (g' := gb292) (o := .cells #[.int .i64 0, .slice none 0 0] 27 (0, 0)) (by (with_reducible repeat (first | refine Ze ?_ _ | refine Zf ?_ | refine Zd ?_ _)); refine ZG ?_ NB292_296.out _; (with_reducible repeat (first | refine Ze ?_ _ | refine Zf ?_ | refine Zd ?_ _)); refine ZG ?_ NB292_296.out _; (with_reducible repeat (first | refine Ze ?_ _ | refine Zf ?_ | refine Zd ?_ _)); exact BK292.out) NB292_0.out (by simp)); replace BK296 := Aside0.mk (ZR hk (g' := gb296) (o := .cells #[.int .i64 (wrap64 (1 + t293)), .slice none 0 0] 27 (0, 0)) (by (with_reducible repeat (first | refine Ze ?_ _ | refine Zf ?_ | refine Zd ?_ _)); refine ZB (cs := #[.int .i64 (wrap64 (1 + t293)), .slice none 0 0]) ?_ 1 _ rfl; (with_reducible repeat (first | refine Ze ?_ _ | refine Zf ?_ | refine Zd ?_ _)); refine ZB (cs := #[.int .i64 0, .slice none 0 0]) ?_ 0 _ rfl; (with_reducible repeat (first | refine Ze ?_ _ | refine Zf ?_ | refine Zd ?_ _)); exact BK296.out) NB296_0.out (by simp)); replace HK := Aside0.mk (KeepBut.trans (by repeat (first | (with_reducible first | exact HK.out | apply Zy | apply ZD | apply ZL | apply ZE | refine ZV ?_ GW292.out _ | refine ZV ?_ GW296.out _) | exact HK.out)) hk (.inl rfl)); replace HB := Aside0.mk (hb); replace HI0 := Aside0.mk (hi); (try clear hb); (try clear hk); (try clear hi)))
 go_loopg [4] k (fun kq v4 w' => ∃ (x4_1 : Int) (x1001_1 : Int) (x1002_1 : Int) (x297000_1 : Int) (x297001_1 : List (List Int)) (u297001 : Value), v4 = .int .i64 x4_1 ∧ Aside0 (spec_l4Draw.l0 kq x4_1 s0_0 x1001_1 x1002_1 x297000_1 x297001_1 = some (r1, r2, r3, r4)) ∧ Aside0 (kq ≤ k) ∧ Aside0 (Kd.S (Kd.slice 3 (Kd.int .i64)) 31 w' w.heap.size (fun _ => True) u297001 x297001_1) ∧ Aside0 (w'.heap[gb292]? = some (.cells #[.int .i64 0, (.slice none 0 0)] 27 (0, 0))) ∧ Aside0 (w'.heap[gb296]? = some (.cells #[.int .i64 x297000_1, u297001] 27 (0, 0))) ∧ Aside0 (IsS93 w0 w' g s0_0 x1001_1 x1002_1) ∧ Aside0 (KeepBut w w' g none) ∧ Aside0 (Below w0.heap.size w0 w'))
 case atStart => exact ⟨(t297), (t298), (t299), (wrap64 (1 + t293)), (([] : List (List Int))), (.slice none 0 0), sm_, H', ⟨Nat.le_refl _⟩, ⟨by first | exact Kd.S_nil _ _ _ _ _ | exact Kd.N_nil _ _ _ _ _ | exact Kd.V_nil _ _ _ _ _ | exact Kd.Q_nil _ _ _ _ _ | exact Kd.R_nil _ _ _ _ _⟩, ⟨bk_ BK292.out⟩, ⟨bk_ BK296.out⟩, ⟨by repeat (first | (with_reducible first | exact HI0.out | apply IsS93.alloc | apply IsS93.drewN | apply IsS93.drew | apply IsS93.set_1 | apply IsS93.set_2 | refine IsS93.far ?_ NB0_292.out _ | refine IsS93.far ?_ NB0_296.out _) | exact HI0.out)⟩, ⟨by repeat (first | (with_reducible first | exact HK.out | apply Zy | apply ZD | apply ZL | apply ZE | refine ZV ?_ GW292.out _ | refine ZV ?_ GW296.out _) | exact HK.out)⟩, ⟨by repeat (first | (with_reducible first | exact HB.out | apply Zk | apply Zi | apply Zj | refine Zc ?_ (IsS93.ge HI0.out) | refine Zc ?_ GE292.out | refine Zc ?_ GE296.out) | exact HB.out)⟩⟩
 case round =>
  clear H'
  try clear c1
  try clear p2
  try clear p6
  try clear c7
  try clear c8
  try clear hcz9_0
  try clear hcz9_1
  try clear hfz9_0
  try clear hfz9_1
  obtain ⟨x4_1, x1001_1, x1002_1, x297000_1, x297001_1, u297001, rfl, HA, HK1, HO_297001, BK292, BK296, HI0, HK, HB⟩ := hrel
  cases gk with
  | zero => exact absurd HA.out (by simp [spec_l4Draw.l0])
  | succ k1 =>
   have H := HA.out
   clear HA
   simp only [spec_l4Draw.l0] at H
   by_cases c11 : x4_1 > 0
   rotate_left
   ·rw [if_neg c11] at H
    have c11b0 : decide (0 < x4_1) = false := decide_eq_false c11
    clear c11
    simp only [Option.some.injEq, Prod.mk.injEq] at H
    obtain ⟨rfl, rfl, rfl, rfl⟩ := H
    have hnb23 := NB296_292.out
    have hnc23 := NB292_296.out
    have hnb24 := NB296_0.out
    have hnc24 := NB0_296.out
    obtain ⟨hcz25_0, hcz25_1, hfz25_0, hfz25_1⟩ := c2_ BK296.out
    have hnb26 := NB292_0.out
    have hnc26 := NB0_292.out
    obtain ⟨hcz27_0, hcz27_1, hfz27_0, hfz27_1⟩ := c2_ BK292.out
    obtain ⟨Ao28, co28, eo28⟩ := ZN HO_297001.out
    subst eo28
    go_wp2
    refine bodyPost_ret (results_cell_row rfl _ _ gb292 27 #[.int .i64 x297000_1, .slice Ao28 x297001_1.length co28] (0, 0) _ rfl (by (with_reducible repeat (first | refine Ze ?_ _ | refine Zf ?_ | refine Zd ?_ _)); refine ZB (cs := #[.int .i64 x297000_1, .slice none 0 0]) ?_ 1 _ rfl; (with_reducible repeat (first | refine Ze ?_ _ | refine Zf ?_ | refine Zd ?_ _)); refine ZB (cs := #[.int .i64 0, .slice none 0 0]) ?_ 0 _ rfl; (with_reducible repeat (first | refine Ze ?_ _ | refine Zf ?_ | refine Zd ?_ _)); exact BK292.out) Try.underlying27 rfl (by kernel_rfl)) rfl ?_
    exact ⟨_, er_, by (with_reducible repeat (first | apply Zs | apply Zr | apply Zp)); exact Zt (Zq (p := ⟨gb292, 1, none⟩) (Zq (p := ⟨gb292, 0, none⟩) (Zv HO_297001.out BK292.out (by decide)) (fun _ hk => hk.2) (.int .i64 x297000_1)) (fun _ hk => hk.2) (.slice Ao28 x297001_1.length co28)) (fun _ hk => trivial), by repeat (first | (with_reducible first | exact HI0.out | apply IsS93.alloc | apply IsS93.drewN | apply IsS93.drew | apply IsS93.set_1 | apply IsS93.set_2 | refine IsS93.far ?_ NB0_292.out _ | refine IsS93.far ?_ NB0_296.out _) | exact HI0.out), by repeat (first | (with_reducible first | exact HB.out | apply Zk | apply Zi | apply Zj | refine Zc ?_ (IsS93.ge HI0.out) | refine Zc ?_ GE292.out | refine Zc ?_ GE296.out) | exact HB.out), by repeat (first | (with_reducible first | exact HK.out | apply Zy | apply ZD | apply ZL | apply ZE | refine ZV ?_ GW292.out _ | refine ZV ?_ GW296.out _) | exact HK.out)⟩
   rw [if_pos c11] at H
   have c11b0 : decide (0 < x4_1) = true := decide_eq_true c11
   clear c11
   obtain ⟨⟨t300, t301, t302⟩, A12, H⟩ := bd_ H
   try dsimp only at H
   obtain ⟨⟨t303, t304, t305⟩, A13, H⟩ := bd_ H
   try dsimp only at H
   obtain ⟨⟨t306, t307, t310⟩, A14, H⟩ := bd_ H
   try dsimp only at H
   have H' := Aside0.mk H
   clear H
   try go_wp2
   replace HO_297001 := Aside0.mk (Zp HO_297001.out)
   replace BK292 := Aside0.mk (Zf BK292.out)
   replace BK296 := Aside0.mk (Zf BK296.out)
   replace HI0 := Aside0.mk (IsS93.drew HI0.out)
   replace HK := Aside0.mk (ZL HK.out)
   replace HB := Aside0.mk (Zj HB.out)
   refine start_ (n := 14) (S := fun w' => w'.cell? ⟨gb296, 0, none⟩ = some (.int .i64 x297000_1) ∧ w'.cell? ⟨gb296, 1, none⟩ = some (u297001)) (ds := [13]) (m_ 14 0) (by kernel_rfl) rfl rfl ⟨(Za BK296.out 0).trans rfl, (Za BK296.out 1).trans rfl⟩ (fun hHeld => ?_); refine with_tabW spec_l4Draw.tab5 spec_l4Draw.bits5 (fun HT_ HW_ => ?_)
   generalize wr.drew = w15 at HO_297001 BK292 BK296 HI0 HK HB hHeld ⊢
   refine pu_ 1 17 (m_ 14 2) ?_
   refine pu_ 2 18 (m_ 14 6) ?_
   refine pu_ 5 21 (m_ 14 38) ?_
   refine pu_ 6 22 (m_ 14 102) ?_
   refine tk2_ 0 16 (m_ 14 103) hHeld ?_
   refine tk2_ 3 19 (m_ 14 111) hHeld ?_
   refine tk2_ 7 23 (m_ 14 239) hHeld ?_
   refine on_ 4 20 (m_ 14 255) (fun K hK => ?_)
   refine goes_ Try.func84 (by kernel_rfl) rfl #[.pointer (some ⟨g, 0, none⟩), .int .i64 x297000_1] (by rfl) rfl rfl ar_ ?_
   with_reducible refine (spec_l1Below.calls g s0_0 x1001_1 x1002_1 x297000_1 t300 t301 t302 w0 _ ?side1 ?side2 A12.out).mono ?_
   (case side1 => repeat (first | (with_reducible first | exact HI0.out | apply IsS93.alloc | apply IsS93.drewN | apply IsS93.drew | apply IsS93.set_1 | apply IsS93.set_2 | refine IsS93.far ?_ NB0_292.out _ | refine IsS93.far ?_ NB0_296.out _) | exact HI0.out))
   (case side2 => repeat (first | (with_reducible first | exact HB.out | apply Zk | apply Zi | apply Zj | refine Zc ?_ (IsS93.ge HI0.out) | refine Zc ?_ GE292.out | refine Zc ?_ GE296.out) | exact HB.out))
   rintro e w16 ⟨rfl, hi, hb, hk⟩
   refine ⟨_, rfl, ?_⟩
   replace HO_297001 := Aside0.mk (Zt (Kd.S_keep (IsS93.apartS (show IsS93 w0 _ g s0_0 x1001_1 x1002_1 from by repeat (first | (with_reducible first | exact HI0.out | apply IsS93.alloc | apply IsS93.drewN | apply IsS93.drew | apply IsS93.set_1 | apply IsS93.set_2 | refine IsS93.far ?_ NB0_292.out _ | refine IsS93.far ?_ NB0_296.out _) | exact HI0.out)) (rS_ HO_297001.out) (by decide)) hk (fun _ h => h.2)) (fun _ h => h.1))
   replace BK292 := Aside0.mk (ZR hk (g' := gb292) (o := .cells #[.int .i64 0, .slice none 0 0] 27 (0, 0)) (bk_ BK292.out) NB292_0.out (by simp))
   replace BK296 := Aside0.mk (ZR hk (g' := gb296) (o := .cells #[.int .i64 x297000_1, u297001] 27 (0, 0)) (bk_ BK296.out) NB296_0.out (by simp))
   replace HK := Aside0.mk (KeepBut.trans (by repeat (first | (with_reducible first | exact HK.out | apply Zy | apply ZD | apply ZL | apply ZE | refine ZV ?_ GW292.out _ | refine ZV ?_ GW296.out _) | exact HK.out)) hk (.inl rfl))
   replace HB := Aside0.mk (hb)
   replace HI0 := Aside0.mk (hi)
   (try clear hb)
   (try clear hb2)
   (try clear hk)
   (try clear hi)
   refine hK.out _ _ ⟨(Za BK296.out 0).trans rfl, (Za BK296.out 1).trans rfl⟩ (fun hHeld => ?_)
   clear hK K
   refine no_ 20 ?_
   refine on_ 8 24 (m_ 14 511) (fun K hK => ?_)
   refine goes_ Try.func84 (by kernel_rfl) rfl #[.pointer (some ⟨g, 0, none⟩), .int .i64 x297000_1] (by rfl) rfl rfl ar_ ?_
   with_reducible refine (spec_l1Below.calls g s0_0 t301 t302 x297000_1 t303 t304 t305 w0 _ ?side1 ?side2 A13.out).mono ?_
   (case side1 => repeat (first | (with_reducible first | exact HI0.out | apply IsS93.alloc | apply IsS93.drewN | apply IsS93.drew | apply IsS93.set_1 | apply IsS93.set_2 | refine IsS93.far ?_ NB0_292.out _ | refine IsS93.far ?_ NB0_296.out _) | exact HI0.out))
   (case side2 => repeat (first | (with_reducible first | exact HB.out | apply Zk | apply Zi | apply Zj | refine Zc ?_ (IsS93.ge HI0.out) | refine Zc ?_ GE292.out | refine Zc ?_ GE296.out) | exact HB.out))
   rintro e w17 ⟨rfl, hi, hb, hk⟩
   refine ⟨_, rfl, ?_⟩
   replace HO_297001 := Aside0.mk (Zt (Kd.S_keep (IsS93.apartS (show IsS93 w0 _ g s0_0 t301 t302 from by repeat (first | (with_reducible first | exact HI0.out | apply IsS93.alloc | apply IsS93.drewN | apply IsS93.drew | apply IsS93.set_1 | apply IsS93.set_2 | refine IsS93.far ?_ NB0_292.out _ | refine IsS93.far ?_ NB0_296.out _) | exact HI0.out)) (rS_ HO_297001.out) (by decide)) hk (fun _ h => h.2)) (fun _ h => h.1))
   replace BK292 := Aside0.mk (ZR hk (g' := gb292) (o := .cells #[.int .i64 0, .slice none 0 0] 27 (0, 0)) (bk_ BK292.out) NB292_0.out (by simp))
   replace BK296 := Aside0.mk (ZR hk (g' := gb296) (o := .cells #[.int .i64 x297000_1, u297001] 27 (0, 0)) (bk_ BK296.out) NB296_0.out (by simp))
   replace HK := Aside0.mk (KeepBut.trans (by repeat (first | (with_reducible first | exact HK.out | apply Zy | apply ZD | apply ZL | apply ZE | refine ZV ?_ GW292.out _ | refine ZV ?_ GW296.out _) | exact HK.out)) hk (.inl rfl))
   replace HB := Aside0.mk (hb)
   replace HI0 := Aside0.mk (hi)
   (try clear hb)
   (try clear hb2)
   (try clear hk)
   (try clear hi)
   obtain ⟨Ao18, co18, eo18⟩ := ZN HO_297001.out
   (first | subst eo18 | (injection eo18 with f1_ f2_ f3_; have f4_ := f1_.symm; have f5_ := f3_.symm; clear f1_ f2_ f3_; subst f4_; subst f5_))
   refine hK.out _ _ ⟨(Za BK296.out 0).trans rfl, (Za BK296.out 1).trans rfl⟩ (fun hHeld => ?_)
   clear hK K
   refine no_ 24 ?_
   refine on_ 9 25 (m_ 14 1023) (fun K hK => ?_)
   refine goes_ Try.func102 (by kernel_rfl) rfl #[.agg #[.int .i64 x297000_1, .slice Ao18 x297001_1.length co18], .int .i64 t300, .int .i64 t303] (by rfl) rfl rfl ar_ ?_
   with_reducible refine (spec_AddAttack.calls k1 x297000_1 _ _ x297001_1 t300 t303 t306 t307 t310 _ ?side1 ?side2 A14.out).mono ?_
   (case side1 => exact sA_ (ZK HO_297001.out).2.2)
   (case side2 => exact (ZK HO_297001.out).2.1)
   rintro e w19 ⟨v308, rfl, ho0, hb⟩
   refine ⟨_, rfl, ?_⟩
   have HO309 := Aside0.mk (Kd.S_lower (Kd.S_new' ho0 (Kd.S_lt (rS_ HO_297001.out))) (keep_size (w := w) (g := g) (row := none) (by repeat (first | (with_reducible first | exact HK.out | apply Zy | apply ZD | apply ZL | apply ZE | refine ZV ?_ GW292.out _ | refine ZV ?_ GW296.out _) | exact HK.out))))
   replace HO_297001 := Aside0.mk (Kd.S_elder' (rS_ HO_297001.out) (Kd.S_base ho0) hb)
   replace BK292 := Aside0.mk (Zg (bq_ BK292.out) hb)
   replace BK296 := Aside0.mk (Zg (bq_ BK296.out) hb)
   replace HK := Aside0.mk (KeepBut.trans (by repeat (first | (with_reducible first | exact HK.out | apply Zy | apply ZD | apply ZL | apply ZE | refine ZV ?_ GW292.out _ | refine ZV ?_ GW296.out _) | exact HK.out)) (KeepBut.of_below hb g none) (.inl rfl))
   replace HB := Aside0.mk (Zh (by repeat (first | (with_reducible first | exact HB.out | apply Zk | apply Zi | apply Zj | refine Zc ?_ (IsS93.ge HI0.out) | refine Zc ?_ GE292.out | refine Zc ?_ GE296.out) | exact HB.out)) hb)
   replace HI0 := Aside0.mk (IsS93.below (by repeat (first | (with_reducible first | exact HI0.out | apply IsS93.alloc | apply IsS93.drewN | apply IsS93.drew | apply IsS93.set_1 | apply IsS93.set_2 | refine IsS93.far ?_ NB0_292.out _ | refine IsS93.far ?_ NB0_296.out _) | exact HI0.out)) hb)
   (try clear hb)
   (try clear hb2)
   (try clear hk)
   (try clear hi)
   (try clear ho0)
   obtain ⟨Ao21, co21, eo21⟩ := ZN HO309.out
   (first | subst eo21 | (injection eo21 with f1_ f2_ f3_; have f4_ := f1_.symm; have f5_ := f3_.symm; clear f1_ f2_ f3_; subst f4_; subst f5_))
   refine hK.out _ _ ⟨(Za BK296.out 0).trans rfl, (Za BK296.out 1).trans rfl⟩ (fun hHeld => ?_)
   clear hK K
   refine no_ 25 ?_
   refine pu_ 10 15 (m_ 14 2047) ?_
   refine pu_ 11 26 (m_ 14 4095) ?_
   refine pu_ 12 27 (m_ 14 8191) ?_
   refine last_ (i := 13) (N := none) (m_ 14 16383) rfl rfl (one_of HT_.out (by kernel_rfl)) (by decide) (fun K hK => ?_)
   have hs20 : w19.cell? ⟨gb296, 0, none⟩ = some (.int .i64 x297000_1) := (Za BK296.out 0).trans rfl
   have hfs20 := Zb BK296.out 0
   have hns20_0 := NB292_296.out
   have hms20_0 := NB296_292.out
   have hs22 : w19.cell? ⟨gb296, 1, none⟩ = some (.slice Ao18 x297001_1.length co18) := (Za BK296.out 1).trans rfl
   have hfs22 := Zb BK296.out 1
   have hns22_0 := NB292_296.out
   have hms22_0 := NB296_292.out
   refine skip_ (w1 := ?_) (by rfl) rfl ?_ ?_
   rotate_left
   ·go_simp
    rfl
   refine hK.out _ _ ?_
   clear hK K
   refine done_ (done_of HT_.out (by kernel_rfl)) ?_
   try go_wp2
   go_roundg k1
   case measure => have := HK1.out; omega
   case rel => exact ⟨(wrap64 (x4_1 - 1)), (t304), (t305), (t306), (t307), (.slice Ao21 t307.length co21), sm_, H', ⟨by have := HK1.out; omega⟩, ⟨by (with_reducible repeat (first | apply Zs | apply Zr | apply Zp)); exact Zt (Zq (p := ⟨gb296, 1, none⟩) (Zq (p := ⟨gb296, 0, none⟩) (Zv HO309.out BK296.out (by decide)) (fun _ hk => hk.2) (.int .i64 t306)) (fun _ hk => hk.2) (.slice Ao21 t307.length co21)) (fun _ hk => trivial)⟩, ⟨by (with_reducible repeat (first | refine Ze ?_ _ | refine Zf ?_ | refine Zd ?_ _)); refine ZG ?_ NB292_296.out _; (with_reducible repeat (first | refine Ze ?_ _ | refine Zf ?_ | refine Zd ?_ _)); refine ZG ?_ NB292_296.out _; (with_reducible repeat (first | refine Ze ?_ _ | refine Zf ?_ | refine Zd ?_ _)); exact BK292.out⟩, ⟨by (with_reducible repeat (first | refine Ze ?_ _ | refine Zf ?_ | refine Zd ?_ _)); refine ZB (cs := #[.int .i64 t306, .slice Ao18 x297001_1.length co18]) ?_ 1 _ rfl; (with_reducible repeat (first | refine Ze ?_ _ | refine Zf ?_ | refine Zd ?_ _)); refine ZB (cs := #[.int .i64 x297000_1, .slice Ao18 x297001_1.length co18]) ?_ 0 _ rfl; (with_reducible repeat (first | refine Ze ?_ _ | refine Zf ?_ | refine Zd ?_ _)); exact BK296.out⟩, ⟨by repeat (first | (with_reducible first | exact HI0.out | apply IsS93.alloc | apply IsS93.drewN | apply IsS93.drew | apply IsS93.set_1 | apply IsS93.set_2 | refine IsS93.far ?_ NB0_292.out _ | refine IsS93.far ?_ NB0_296.out _) | exact HI0.out)⟩, ⟨by repeat (first | (with_reducible first | exact HK.out | apply Zy | apply ZD | apply ZL | apply ZE | refine ZV ?_ GW292.out _ | refine ZV ?_ GW296.out _) | exact HK.out)⟩, ⟨by repeat (first | (with_reducible first | exact HB.out | apply Zk | apply Zi | apply Zj | refine Zc ?_ (IsS93.ge HI0.out) | refine Zc ?_ GE292.out | refine Zc ?_ GE296.out) | exact HB.out)⟩⟩

/-! ### spec_l1Int: function 139 -/
def spec_l1Int.f (s0_0 : List Int) (s0_1 : Int) (s0_2 : Int) (l1 : List Int) : Option (Int × Int × Int) := (spec_l1Below.f s0_0 s0_1 s0_2 (l1.length : Int)).bind fun bt311 => (if 0 ≤ bt311.1 then (if bt311.1 < (l1.length : Int) then (some (rd l1 bt311.1, bt311.2.1, bt311.2.2)) else (none)) else (none))
theorem spec_l1Int.calls (g : Nat) (s0_0 : List Int) (s0_1 : Int) (s0_2 : Int) (A1 : Option Addr) (c1 : Nat) (l1 : List Int) (r1 : Int) (r2 : Int) (r3 : Int) (w0 w : World) (hI : IsS93 w0 w g s0_0 s0_1 s0_2) (hB : Below w0.heap.size w0 w) (hr1 : Kd.C (Kd.int .i64) w A1 l1.length l1) (hc1 : l1.length ≤ c1) (hf1 : ∀ ad, A1 = some ad → 0 < l1.length → ad.block ≠ g) (h : spec_l1Int.f s0_0 s0_1 s0_2 l1 = some (r1, r2, r3)) :
  Calls Try.prog 139 #[.pointer (some ⟨g, 0, none⟩), .slice A1 l1.length c1] w fun e w' => e = .returned (.int .i64 r1) ∧ IsS93 w0 w' g s0_0 r2 r3 ∧ Below w0.heap.size w0 w' ∧ KeepBut w w' g none := by
 have HR1 := Aside0.mk hr1
 have HC1 := Aside0.mk hc1
 clear hr1 hc1
 have HI0 := Aside0.mk hI
 have HK := Aside0.mk (KeepBut.refl w g none)
 have HL := Aside0.mk hB.size
 clear hI
 have HW0 := Aside0.mk hB.size
 have HB := Aside0.mk hB
 clear hB
 have H := h
 unfold spec_l1Int.f at H
 clear h
 obtain ⟨⟨t311, t312, t313⟩, A3, H⟩ := bd_ H
 try dsimp only at H
 by_cases c4 : 0 ≤ t311
 rotate_left
 ·rw [if_neg c4] at H
  exact absurd H (by simp)
 rw [if_pos c4] at H
 have c4b0 : decide (0 ≤ t311) = true := decide_eq_true c4
 clear c4
 by_cases c5 : t311 < (l1.length : Int)
 rotate_left
 ·rw [if_neg c5] at H
  exact absurd H (by simp)
 rw [if_pos c5] at H
 have c5b0 : decide (t311 < (l1.length : Int)) = true := decide_eq_true c5
 clear c5
 simp only [Option.some.injEq, Prod.mk.injEq] at H
 obtain ⟨rfl, rfl, rfl⟩ := H
 go_enter Try.func139, Try.ntmps139
 go_wp2_with (first | ((with_reducible refine Zl (f := 84) rfl ?_); refine ZI (some 9) rfl rfl Try.func84 (by kernel_rfl) rfl #[.pointer (some ⟨g, 0, none⟩), .int .i64 (l1.length : Int)] rfl ar_ ?_; (with_reducible refine (spec_l1Below.calls g s0_0 s0_1 s0_2 (l1.length : Int) t311 t312 t313 w0 _ ?side1 ?side2 A3.out).mono ?_); (case side1 => exact qB_ HI0.out); (case side2 => repeat (first | (with_reducible first | exact HB.out | apply Zk | apply Zi | apply Zj | refine Zc ?_ (IsS93.ge HI0.out)) | exact HB.out)); rintro e w6 ⟨rfl, hi, hb, hk⟩; refine ⟨_, rfl, ?_⟩; replace HK := Aside0.mk (KeepBut.trans (qA_ HK.out) hk (.inl rfl)); replace HB := Aside0.mk (hb); replace HI0 := Aside0.mk (hi); (try clear hb); (try clear hk); (try clear hi); have p314 : 0 ≤ (t311 : Int) := of_decide_eq_true as_; have q314 : t311 < (l1.length : Int) := of_decide_eq_true as_; obtain ⟨ad314, e314, hx314_0⟩ := Zx HR1.out t311 p314 q314; cases e314; replace hx314_0 := keep_cell HK.out hx314_0 (by first | (rw [add_block]; exact hf1 _ rfl (by omega)) | exact hf1 _ rfl (by omega) | exact hf1 ad314 rfl (by omega)); replace p314 := eq_true p314; replace q314 := eq_true q314))
 go_ret
 exact ⟨er_, by exact qB_ HI0.out, by repeat (first | (with_reducible first | exact HB.out | apply Zk | apply Zi | apply Zj | refine Zc ?_ (IsS93.ge HI0.out)) | exact HB.out), by exact qA_ HK.out⟩

/-! ### spec_l4Raw: function 121 -/
def spec_l4Raw.f (s0_0 : List Int) (s0_1 : Int) (s0_2 : Int) : Option (Int × Int × Int) := (spec_l1Int.f s0_0 s0_1 s0_2 (([(-1), 0, 5, 10, 11, 9223372036854775807, (-9223372036854775808)] : List Int))).bind fun bt318 => (some (bt318.1, bt318.2.1, bt318.2.2))
theorem spec_l4Raw.calls (g : Nat) (s0_0 : List Int) (s0_1 : Int) (s0_2 : Int) (r1 : Int) (r2 : Int) (r3 : Int) (w0 w : World) (hI : IsS93 w0 w g s0_0 s0_1 s0_2) (hB : Below w0.heap.size w0 w) (h : spec_l4Raw.f s0_0 s0_1 s0_2 = some (r1, r2, r3)) :
  Calls Try.prog 121 #[.pointer (some ⟨g, 0, none⟩)] w fun e w' => e = .returned (.int .i64 r1) ∧ IsS93 w0 w' g s0_0 r2 r3 ∧ Below w0.heap.size w0 w' ∧ KeepBut w w' g none := by
 have HI0 := Aside0.mk hI
 have HK := Aside0.mk (KeepBut.refl w g none)
 have HL := Aside0.mk hB.size
 clear hI
 have HW0 := Aside0.mk hB.size
 have HB := Aside0.mk hB
 clear hB
 have H := h
 unfold spec_l4Raw.f at H
 clear h
 obtain ⟨y315, hy315⟩ : ∃ y_ : List Int, y_ = (([(-1), 0, 5, 10, 11, 9223372036854775807, (-9223372036854775808)] : List Int)) := ⟨_, rfl⟩
 replace H : ((spec_l1Int.f s0_0 s0_1 s0_2 y315).bind fun bt318 => (some (bt318.1, bt318.2.1, bt318.2.2))) = some (r1, r2, r3) := hy_ hy315 H
 have Ny315 := Aside0.mk hy315
 clear hy315
 obtain ⟨⟨t318, t319, t320⟩, A2, H⟩ := bd_ H
 try dsimp only at H
 simp only [Option.some.injEq, Prod.mk.injEq] at H
 obtain ⟨rfl, rfl, rfl⟩ := H
 go_enter Try.func121, Try.ntmps121
 go_wp2_with (first | ((with_reducible refine ZA (N := 4) rfl ?_); refine Kd.R_lit (Kd.int .i64) _ 3 ?hg (N := 4) ?hd (xs := ([(-1), 0, 5, 10, 11, 9223372036854775807, (-9223372036854775808)] : List Int)) (inner := [.int .i64 (-1), .int .i64 0, .int .i64 5, .int .i64 10, .int .i64 11, .int .i64 9223372036854775807, .int .i64 (-9223372036854775808)]) (ok := fun _ => True) (okp := fun _ => True) ?hr ?hp (fun _ hk => hk) trivial (Below.refl _ _) (Nat.le_refl _) (by simp) ?_; (case hd => rfl); (case hg => rfl); (case hr => first | (go_simp; done) | (go_simp; rfl)); (case hp => exact (Reps.one (show Kd.M (Kd.int .i64) _ _ _ (-1) [.int .i64 (-1)] from rfl) (Reps.one (show Kd.M (Kd.int .i64) _ _ _ 0 [.int .i64 0] from rfl) (Reps.one (show Kd.M (Kd.int .i64) _ _ _ 5 [.int .i64 5] from rfl) (Reps.one (show Kd.M (Kd.int .i64) _ _ _ 10 [.int .i64 10] from rfl) (Reps.one (show Kd.M (Kd.int .i64) _ _ _ 11 [.int .i64 11] from rfl) (Reps.one (show Kd.M (Kd.int .i64) _ _ _ 9223372036854775807 [.int .i64 9223372036854775807] from rfl) (Reps.one (show Kd.M (Kd.int .i64) _ _ _ (-9223372036854775808) [.int .i64 (-9223372036854775808)] from rfl) (Reps.none _ _))))))))); intro v316 w3 ho4 hb hg_ hnew_; clear hg_ hnew_; (first | rw [← Ny315.out] at ho4 | (simp only [Int.reduceToNat] at ho4; rw [← Ny315.out] at ho4)); have HO317 := Aside0.mk (Kd.R_lower ho4 (keep_size (w := w) (g := g) (row := none) (qA_ HK.out))); replace HK := Aside0.mk (KeepBut.trans (qA_ HK.out) (KeepBut.of_below hb g none) (.inl rfl)); replace HB := Aside0.mk (Zh (by repeat (first | (with_reducible first | exact HB.out | apply Zk | apply Zi | apply Zj | refine Zc ?_ (IsS93.ge HI0.out)) | exact HB.out)) hb); replace HI0 := Aside0.mk (IsS93.below (qB_ HI0.out) hb); clear hb ho4; obtain ⟨Ao5, co5, eo5⟩ := Kd.R_slice HO317.out; subst eo5) | ((with_reducible refine Zl (f := 139) rfl ?_); refine ZI (some 5) rfl rfl Try.func139 (by kernel_rfl) rfl #[.pointer (some ⟨g, 0, none⟩), .slice Ao5 y315.length co5] rfl ar_ ?_; (with_reducible refine (spec_l1Int.calls g s0_0 s0_1 s0_2 _ _ y315 t318 t319 t320 w0 _ ?side1 ?side2 ?side3 ?side4 ?side5 A2.out).mono ?_); (case side1 => exact qB_ HI0.out); (case side2 => repeat (first | (with_reducible first | exact HB.out | apply Zk | apply Zi | apply Zj | refine Zc ?_ (IsS93.ge HI0.out)) | exact HB.out)); (case side3 => exact sA_ (ZF HO317.out).2.2); (case side4 => exact (ZF HO317.out).2.1); (case side5 => exact far_slice (IsS93.own_ne HI0.out HO317.out (by decide))); rintro e w6 ⟨rfl, hi, hb, hk⟩; refine ⟨_, rfl, ?_⟩; replace HO317 := Aside0.mk (Zw (Kd.R_keep (IsS93.apart (show IsS93 w0 _ g s0_0 s0_1 s0_2 from by exact qB_ HI0.out) (rR_ HO317.out) (by decide)) hk (fun _ h => h.2)) (fun _ h => h.1)); replace HK := Aside0.mk (KeepBut.trans (qA_ HK.out) hk (.inl rfl)); replace HB := Aside0.mk (hb); replace HI0 := Aside0.mk (hi); (try clear hb); (try clear hk); (try clear hi)))
 go_ret
 exact ⟨er_, by exact qB_ HI0.out, by repeat (first | (with_reducible first | exact HB.out | apply Zk | apply Zi | apply Zj | refine Zc ?_ (IsS93.ge HI0.out)) | exact HB.out), by exact qA_ HK.out⟩

end Go.Proofs.Ytdlobolnajcfnaa.PFnDisputes
