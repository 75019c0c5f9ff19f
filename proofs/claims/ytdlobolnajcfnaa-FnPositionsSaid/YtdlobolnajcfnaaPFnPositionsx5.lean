-- Written by a program of this session (hooks of mine on the print): Lean checks it.
import Derived.Test.YtdlobolnajcfnaaPFnPositionsx0
import Derived.Test.YtdlobolnajcfnaaPFnPositionsx1
import Derived.Test.YtdlobolnajcfnaaPFnPositionsx4
namespace Go.Proofs.Ytdlobolnajcfnaa.PFnPositions
open Go.RowKit Go.Proofs.YtdlobolnajcfnaaW.PrintWords Go.Proofs.YtdlobolnajcfnaaW.PrintLast Go.Proofs.YtdlobolnajcfnaaW.PrintMore
attribute [local go_sem] max2_int min2_int max_two min_two max_three min_three max_four min_four   -- for this text's walks alone
set_option linter.unusedVariables false
set_option linter.unusedSimpArgs false
set_option maxHeartbeats 8000000
set_option maxRecDepth 100000

/-! ### spec_l4Draw: function 120 -/
def spec_l4Draw.l0 : Nat → Int → List Int → Int → Int → Int → List (List Int) → Option (Int × (List (List Int)) × Int × Int)
 | 0, _, _, _, _, _, _ => none
 | k + 1, x4, x1000, x1001, x1002, x230000, x230001 => if x4 > 0 then ((spec_l1Below.f x1000 x1001 x1002 x230000).bind fun bt233 => ((spec_l1Below.f x1000 bt233.2.1 bt233.2.2 x230000).bind fun bt236 => ((spec_AddAttack.f k x230000 x230001 bt233.1 bt236.1).bind fun bt239 => (spec_l4Draw.l0 k (wrap64 (x4 - 1)) x1000 bt236.2.1 bt236.2.2 bt239.1 bt239.2.1)))) else (some (x230000, x230001, x1001, x1002))
def spec_l4Draw.f (k : Nat) (s0_0 : List Int) (s0_1 : Int) (s0_2 : Int) : Option (Int × (List (List Int)) × Int × Int) := (spec_l1Below.f s0_0 s0_1 s0_2 6).bind fun bt226 => ((spec_l1Below.f s0_0 bt226.2.1 bt226.2.2 10).bind fun bt230 => (spec_l4Draw.l0 k bt230.1 s0_0 bt230.2.1 bt230.2.2 (wrap64 (1 + bt226.1)) ([] : List (List Int))))
theorem spec_l4Draw.mono_l : ∀ k, (∀ y0 y1 y2 y3 y4 y5, LeO (spec_l4Draw.l0 k y0 y1 y2 y3 y4 y5) (spec_l4Draw.l0 (k + 1) y0 y1 y2 y3 y4 y5))
 | 0 => fun _ _ _ _ _ _ r h => by simp [spec_l4Draw.l0] at h
 | k + 1 => by
  have ih0 := spec_l4Draw.mono_l k
  ·intro y0 y1 y2 y3 y4 y5
   unfold spec_l4Draw.l0
   repeat' with_reducible first | apply ih0 | apply spec_AddAttack.mono | apply Zy | apply Zg | refine Zl ?_ ?_ | refine Zh ?_ (fun _ => ?_)
theorem spec_l4Draw.mono : ∀ a0 a1 a2 k, LeO (spec_l4Draw.f k a0 a1 a2) (spec_l4Draw.f (k + 1) a0 a1 a2) := by
 intro a0 a1 a2 k
 have ih0 := spec_l4Draw.mono_l k
 unfold spec_l4Draw.f
 repeat' with_reducible first | apply ih0 | apply spec_AddAttack.mono | apply Zy | apply Zg | refine Zl ?_ ?_ | refine Zh ?_ (fun _ => ?_)
def spec_l4Draw.T5 : Bool × List (List Nat × List Nat) := (true, [([], []), ([], []), ([], []), ([2], [2]), ([1, 3], [1, 3]), ([], []), ([], []), ([6], [6]), ([5, 7, 4], [5, 7]), ([0, 4, 8, 8], [0, 4, 8]), ([9], [9]), ([10], [10]), ([10], [10]), ([11, 9, 0, 1, 2, 3, 4, 5, 6, 7, 8, 9, 10, 11], [11])])
def spec_l4Draw.B5 : List Nat := [0, 0, 0, 4, 14, 0, 0, 64, 254, 511, 1023, 2047, 2047, 4095]
theorem spec_l4Draw.tab5 : rtab .any (opsOf Try.f120 5) = spec_l4Draw.T5 := by kernel_rfl
theorem spec_l4Draw.bits5 : waitsOk spec_l4Draw.T5.2 spec_l4Draw.B5 = true := by kernel_rfl
theorem spec_l4Draw.calls (k : Nat) (g : Nat) (s0_0 : List Int) (s0_1 : Int) (s0_2 : Int) (r1 : Int) (r2 : List (List Int)) (r3 : Int) (r4 : Int) (w0 w : World) (hI : IsS93 w0 w g s0_0 s0_1 s0_2) (hB : Below w0.heap.size w0 w) (h : spec_l4Draw.f k s0_0 s0_1 s0_2 = some (r1, r2, r3, r4)) :
  Calls Try.prog 120 #[.pointer (some ⟨g, 0, none⟩)] w fun e w' => ∃ v1_ : Value, e = .returned (.agg #[.int .i64 r1, v1_]) ∧ Kd.S (Kd.slice 3 (Kd.int .i64)) 31 w' w.heap.size (fun _ => True) v1_ r2 ∧ IsS93 w0 w' g s0_0 r3 r4 ∧ Below w0.heap.size w0 w' ∧ KeepBut w w' g none := by
 have hu27 := Try.underlying27
 have HI0 := Aside0.mk hI
 have HK := Aside0.mk (KeepBut.refl w g none)
 have HL := Aside0.mk hB.size
 clear hI
 have HW0 := Aside0.mk hB.size
 have HB := Aside0.mk hB
 clear hB
 have H := h
 unfold spec_l4Draw.f at H
 clear h
 obtain ⟨⟨t226, t227, t228⟩, A2, H⟩ := bd_ H
 try dsimp only at H
 obtain ⟨⟨t230, t231, t232⟩, A3, H⟩ := bd_ H
 try dsimp only at H
 have H' := Aside0.mk H
 clear H
 go_enter Try.func120, Try.ntmps120
 go_wp2_with (first | ((with_reducible refine Zz (N := 2) rfl ?_); refine ZI ?hg (N := 2) ?hd (cs := #[.int .i64 0, .slice none 0 0]) (t := 27) ?hr ?_; (case hd => rfl); (case hg => rfl); (case hr => first | (go_simp; done) | (go_simp; rfl)); intro gb225 hg w4 hbox hb; replace HB := Aside0.mk (Zc (by repeat (first | (with_reducible first | exact HB.out | apply ZA | apply Zm | apply Zq | refine Zr ?_ (IsS93.ge HI0.out)) | exact HB.out)) hb); have BK225 := Aside0.mk (hbox); have GW225 := Aside0.mk ((by rw [hg]; exact (keep_size (w := w) (g := g) (row := none) (qC_ HK.out)) : w.heap.size ≤ gb225)); have GE225 := Aside0.mk ((Nat.le_trans HW0.out (by rw [hg]; exact (keep_size (w := w) (g := g) (row := none) (qC_ HK.out)) : w.heap.size ≤ gb225) : w0.heap.size ≤ gb225)); replace HK := Aside0.mk (ZP (qC_ HK.out) (KeepBut.of_below hb g none) (.inl rfl)); have NB0_225 := Aside0.mk ((by rw [hg]; exact Nat.ne_of_lt (IsS93.lt (show IsS93 w0 _ g s0_0 s0_1 s0_2 from by exact qB_ HI0.out)) : g ≠ gb225)); have NB225_0 := Aside0.mk ((by rw [hg]; exact Nat.ne_of_gt (IsS93.lt (show IsS93 w0 _ g s0_0 s0_1 s0_2 from by exact qB_ HI0.out)) : gb225 ≠ g)); replace HI0 := Aside0.mk (IsS93.below (qB_ HI0.out) hb); clear hb hbox hg) | ((with_reducible refine Zf (f := 84) rfl ?_); refine ZC (some 6) rfl rfl Try.func84 (by kernel_rfl) rfl #[.pointer (some ⟨g, 0, none⟩), .int .i64 6] rfl ar_ ?_; (with_reducible refine (spec_l1Below.calls g s0_0 s0_1 s0_2 6 t226 t227 t228 w0 _ ?side1 ?side2 A2.out).mono ?_); (case side1 => repeat (first | (with_reducible first | exact HI0.out | apply IsS93.alloc | apply IsS93.drewN | apply IsS93.drew | apply IsS93.set_1 | apply IsS93.set_2 | refine IsS93.far ?_ NB0_225.out _) | exact HI0.out)); (case side2 => repeat (first | (with_reducible first | exact HB.out | apply ZA | apply Zm | apply Zq | refine Zr ?_ (IsS93.ge HI0.out) | refine Zr ?_ GE225.out) | exact HB.out)); rintro e w5 ⟨rfl, hi, hb, hk⟩; refine ⟨_, rfl, ?_⟩; replace BK225 := Aside0.mk (KeepBut.blk hk (g' := gb225) (o := .cells #[.int .i64 0, .slice none 0 0] 27 (0, 0)) (bk_ BK225.out) NB225_0.out (by simp)); replace HK := Aside0.mk (ZP (by repeat (first | (with_reducible first | exact HK.out | apply Zs | apply Zw | apply ZD | apply Zx | refine ZL ?_ GW225.out _) | exact HK.out)) hk (.inl rfl)); replace HB := Aside0.mk (hb); replace HI0 := Aside0.mk (hi); (try clear hb); (try clear hk); (try clear hi)) | ((with_reducible refine Zz (N := 3) rfl ?_); refine ZI ?hg (N := 3) ?hd (cs := #[.int .i64 0, .slice none 0 0]) (t := 27) ?hr ?_; (case hd => rfl); (case hg => rfl); (case hr => first | (go_simp; done) | (go_simp; rfl)); intro gb229 hg w6 hbox hb; replace HB := Aside0.mk (Zc (by repeat (first | (with_reducible first | exact HB.out | apply ZA | apply Zm | apply Zq | refine Zr ?_ (IsS93.ge HI0.out) | refine Zr ?_ GE225.out) | exact HB.out)) hb); have BK229 := Aside0.mk (hbox); have GW229 := Aside0.mk ((by rw [hg]; exact (keep_size (w := w) (g := g) (row := none) (by repeat (first | (with_reducible first | exact HK.out | apply Zs | apply Zw | apply ZD | apply Zx | refine ZL ?_ GW225.out _) | exact HK.out))) : w.heap.size ≤ gb229)); have GE229 := Aside0.mk ((Nat.le_trans HW0.out (by rw [hg]; exact (keep_size (w := w) (g := g) (row := none) (by repeat (first | (with_reducible first | exact HK.out | apply Zs | apply Zw | apply ZD | apply Zx | refine ZL ?_ GW225.out _) | exact HK.out))) : w.heap.size ≤ gb229) : w0.heap.size ≤ gb229)); replace HK := Aside0.mk (ZP (by repeat (first | (with_reducible first | exact HK.out | apply Zs | apply Zw | apply ZD | apply Zx | refine ZL ?_ GW225.out _) | exact HK.out)) (KeepBut.of_below hb g none) (.inl rfl)); have NB225_229 := Aside0.mk ((by rw [hg]; exact Nat.ne_of_lt (blk_lt (bq_ BK225.out)) : gb225 ≠ gb229)); have NB229_225 := Aside0.mk ((by rw [hg]; exact Nat.ne_of_gt (blk_lt (bq_ BK225.out)) : gb229 ≠ gb225)); replace BK225 := Aside0.mk (Zd (bq_ BK225.out) hb); have NB0_229 := Aside0.mk ((by rw [hg]; exact Nat.ne_of_lt (IsS93.lt (show IsS93 w0 _ g s0_0 t227 t228 from by repeat (first | (with_reducible first | exact HI0.out | apply IsS93.alloc | apply IsS93.drewN | apply IsS93.drew | apply IsS93.set_1 | apply IsS93.set_2 | refine IsS93.far ?_ NB0_225.out _) | exact HI0.out))) : g ≠ gb229)); have NB229_0 := Aside0.mk ((by rw [hg]; exact Nat.ne_of_gt (IsS93.lt (show IsS93 w0 _ g s0_0 t227 t228 from by repeat (first | (with_reducible first | exact HI0.out | apply IsS93.alloc | apply IsS93.drewN | apply IsS93.drew | apply IsS93.set_1 | apply IsS93.set_2 | refine IsS93.far ?_ NB0_225.out _) | exact HI0.out))) : gb229 ≠ g)); replace HI0 := Aside0.mk (IsS93.below (by repeat (first | (with_reducible first | exact HI0.out | apply IsS93.alloc | apply IsS93.drewN | apply IsS93.drew | apply IsS93.set_1 | apply IsS93.set_2 | refine IsS93.far ?_ NB0_225.out _) | exact HI0.out)) hb); clear hb hbox hg; have hnb7 := NB229_225.out; have hnc7 := NB225_229.out; have hnb8 := NB229_0.out; have hnc8 := NB0_229.out; obtain ⟨hcz9_0, hcz9_1, hfz9_0, hfz9_1⟩ := c2_ BK229.out) | ((with_reducible refine Zf (f := 84) rfl ?_); refine ZC (some 10) rfl rfl Try.func84 (by kernel_rfl) rfl #[.pointer (some ⟨g, 0, none⟩), .int .i64 10] rfl ar_ ?_; (with_reducible refine (spec_l1Below.calls g s0_0 t227 t228 10 t230 t231 t232 w0 _ ?side1 ?side2 A3.out).mono ?_); (case side1 => repeat (first | (with_reducible first | exact HI0.out | apply IsS93.alloc | apply IsS93.drewN | apply IsS93.drew | apply IsS93.set_1 | apply IsS93.set_2 | refine IsS93.far ?_ NB0_225.out _ | refine IsS93.far ?_ NB0_229.out _) | exact HI0.out)); (case side2 => repeat (first | (with_reducible first | exact HB.out | apply ZA | apply Zm | apply Zq | refine Zr ?_ (IsS93.ge HI0.out) | refine Zr ?_ GE225.out | refine Zr ?_ GE229.out) | exact HB.out)); rintro e w10 ⟨rfl, hi, hb, hk⟩; refine ⟨_, rfl, ?_⟩; replace BK225 := Aside0.mk (KeepBut.blk hk (g' := gb225) (o := .cells #[.int .i64 0, .slice none 0 0] 27 (0, 0)) (by (with_reducible repeat (first | refine Zk ?_ _ | refine Zj ?_ | refine Zi ?_ _)); refine blk_far ?_ NB225_229.out _; (with_reducible repeat (first | refine Zk ?_ _ | refine Zj ?_ | refine Zi ?_ _)); refine blk_far ?_ NB225_229.out _; (with_reducible repeat (first | refine Zk ?_ _ | refine Zj ?_ | refine Zi ?_ _)); exact BK225.out) NB225_0.out (by simp)); replace BK229 := Aside0.mk (KeepBut.blk hk (g' := gb229) (o := .cells #[.int .i64 (wrap64 (1 + t226)), .slice none 0 0] 27 (0, 0)) (by (with_reducible repeat (first | refine Zk ?_ _ | refine Zj ?_ | refine Zi ?_ _)); refine blk_put (cs := #[.int .i64 (wrap64 (1 + t226)), .slice none 0 0]) ?_ 1 _ rfl; (with_reducible repeat (first | refine Zk ?_ _ | refine Zj ?_ | refine Zi ?_ _)); refine blk_put (cs := #[.int .i64 0, .slice none 0 0]) ?_ 0 _ rfl; (with_reducible repeat (first | refine Zk ?_ _ | refine Zj ?_ | refine Zi ?_ _)); exact BK229.out) NB229_0.out (by simp)); replace HK := Aside0.mk (ZP (by repeat (first | (with_reducible first | exact HK.out | apply Zs | apply Zw | apply ZD | apply Zx | refine ZL ?_ GW225.out _ | refine ZL ?_ GW229.out _) | exact HK.out)) hk (.inl rfl)); replace HB := Aside0.mk (hb); replace HI0 := Aside0.mk (hi); (try clear hb); (try clear hk); (try clear hi)))
 go_loopg [4] k (fun kq v4 w' => ∃ (x4_1 : Int) (x1001_1 : Int) (x1002_1 : Int) (x230000_1 : Int) (x230001_1 : List (List Int)) (u230001 : Value), v4 = .int .i64 x4_1 ∧ Aside0 (spec_l4Draw.l0 kq x4_1 s0_0 x1001_1 x1002_1 x230000_1 x230001_1 = some (r1, r2, r3, r4)) ∧ Aside0 (kq ≤ k) ∧ Aside0 (Kd.S (Kd.slice 3 (Kd.int .i64)) 31 w' w.heap.size (fun _ => True) u230001 x230001_1) ∧ Aside0 (w'.heap[gb225]? = some (.cells #[.int .i64 0, (.slice none 0 0)] 27 (0, 0))) ∧ Aside0 (w'.heap[gb229]? = some (.cells #[.int .i64 x230000_1, u230001] 27 (0, 0))) ∧ Aside0 (IsS93 w0 w' g s0_0 x1001_1 x1002_1) ∧ Aside0 (KeepBut w w' g none) ∧ Aside0 (Below w0.heap.size w0 w'))
 case atStart => exact ⟨(t230), (t231), (t232), (wrap64 (1 + t226)), (([] : List (List Int))), (.slice none 0 0), sm_, H', ⟨Nat.le_refl _⟩, ⟨by first | exact Kd.S_nil _ _ _ _ _ | exact Kd.N_nil _ _ _ _ _ | exact Kd.V_nil _ _ _ _ _ | exact Kd.Q_nil _ _ _ _ _ | exact Kd.R_nil _ _ _ _ _⟩, ⟨bk_ BK225.out⟩, ⟨bk_ BK229.out⟩, ⟨by repeat (first | (with_reducible first | exact HI0.out | apply IsS93.alloc | apply IsS93.drewN | apply IsS93.drew | apply IsS93.set_1 | apply IsS93.set_2 | refine IsS93.far ?_ NB0_225.out _ | refine IsS93.far ?_ NB0_229.out _) | exact HI0.out)⟩, ⟨by repeat (first | (with_reducible first | exact HK.out | apply Zs | apply Zw | apply ZD | apply Zx | refine ZL ?_ GW225.out _ | refine ZL ?_ GW229.out _) | exact HK.out)⟩, ⟨by repeat (first | (with_reducible first | exact HB.out | apply ZA | apply Zm | apply Zq | refine Zr ?_ (IsS93.ge HI0.out) | refine Zr ?_ GE225.out | refine Zr ?_ GE229.out) | exact HB.out)⟩⟩
 case round =>
  clear H'
  try clear c1
  try clear p2
  try clear p6
  try clear c7
  try clear c8
  try clear hcz9_0
  try clear hcz9_1
  try clear hfz9_0
  try clear hfz9_1
  obtain ⟨x4_1, x1001_1, x1002_1, x230000_1, x230001_1, u230001, rfl, HA, HK1, HO_230001, BK225, BK229, HI0, HK, HB⟩ := hrel
  cases gk with
  | zero => exact absurd HA.out (by simp [spec_l4Draw.l0])
  | succ k1 =>
   have H := HA.out
   clear HA
   simp only [spec_l4Draw.l0] at H
   by_cases c11 : x4_1 > 0
   rotate_left
   ·rw [if_neg c11] at H
    have c11b0 : decide (0 < x4_1) = false := decide_eq_false c11
    clear c11
    simp only [Option.some.injEq, Prod.mk.injEq] at H
    obtain ⟨rfl, rfl, rfl, rfl⟩ := H
    have hnb23 := NB229_225.out
    have hnc23 := NB225_229.out
    have hnb24 := NB229_0.out
    have hnc24 := NB0_229.out
    obtain ⟨hcz25_0, hcz25_1, hfz25_0, hfz25_1⟩ := c2_ BK229.out
    have hnb26 := NB225_0.out
    have hnc26 := NB0_225.out
    obtain ⟨hcz27_0, hcz27_1, hfz27_0, hfz27_1⟩ := c2_ BK225.out
    obtain ⟨Ao28, co28, eo28⟩ := Kd.S_slice HO_230001.out
    subst eo28
    go_wp2
    refine bodyPost_ret (results_cell_row rfl _ _ gb225 27 #[.int .i64 x230000_1, .slice Ao28 x230001_1.length co28] (0, 0) _ rfl (by (with_reducible repeat (first | refine Zk ?_ _ | refine Zj ?_ | refine Zi ?_ _)); refine blk_put (cs := #[.int .i64 x230000_1, .slice none 0 0]) ?_ 1 _ rfl; (with_reducible repeat (first | refine Zk ?_ _ | refine Zj ?_ | refine Zi ?_ _)); refine blk_put (cs := #[.int .i64 0, .slice none 0 0]) ?_ 0 _ rfl; (with_reducible repeat (first | refine Zk ?_ _ | refine Zj ?_ | refine Zi ?_ _)); exact BK225.out) Try.underlying27 rfl (by kernel_rfl)) rfl ?_
    exact ⟨_, er_, by (with_reducible repeat (first | apply Kd.S_alloc | apply Kd.S_drewN | apply Kd.S_drew)); exact ZT (Kd.S_far (p := ⟨gb225, 1, none⟩) (Kd.S_far (p := ⟨gb225, 0, none⟩) (Kd.S_types HO_230001.out BK225.out (by decide)) (fun _ hk => hk.2) (.int .i64 x230000_1)) (fun _ hk => hk.2) (.slice Ao28 x230001_1.length co28)) (fun _ hk => trivial), by repeat (first | (with_reducible first | exact HI0.out | apply IsS93.alloc | apply IsS93.drewN | apply IsS93.drew | apply IsS93.set_1 | apply IsS93.set_2 | refine IsS93.far ?_ NB0_225.out _ | refine IsS93.far ?_ NB0_229.out _) | exact HI0.out), by repeat (first | (with_reducible first | exact HB.out | apply ZA | apply Zm | apply Zq | refine Zr ?_ (IsS93.ge HI0.out) | refine Zr ?_ GE225.out | refine Zr ?_ GE229.out) | exact HB.out), by repeat (first | (with_reducible first | exact HK.out | apply Zs | apply Zw | apply ZD | apply Zx | refine ZL ?_ GW225.out _ | refine ZL ?_ GW229.out _) | exact HK.out)⟩
   rw [if_pos c11] at H
   have c11b0 : decide (0 < x4_1) = true := decide_eq_true c11
   clear c11
   obtain ⟨⟨t233, t234, t235⟩, A12, H⟩ := bd_ H
   try dsimp only at H
   obtain ⟨⟨t236, t237, t238⟩, A13, H⟩ := bd_ H
   try dsimp only at H
   obtain ⟨⟨t239, t240, t243⟩, A14, H⟩ := bd_ H
   try dsimp only at H
   have H' := Aside0.mk H
   clear H
   try go_wp2
   replace HO_230001 := Aside0.mk (Kd.S_drew HO_230001.out)
   replace BK225 := Aside0.mk (Zj BK225.out)
   replace BK229 := Aside0.mk (Zj BK229.out)
   replace HI0 := Aside0.mk (IsS93.drew HI0.out)
   replace HK := Aside0.mk (ZD HK.out)
   replace HB := Aside0.mk (Zq HB.out)
   refine start_ (n := 14) (S := fun w' => w'.cell? ⟨gb229, 0, none⟩ = some (.int .i64 x230000_1) ∧ w'.cell? ⟨gb229, 1, none⟩ = some (u230001)) (ds := [13]) (m_ 14 0) (by kernel_rfl) rfl rfl ⟨(Za BK229.out 0).trans rfl, (Za BK229.out 1).trans rfl⟩ (fun hHeld => ?_); refine with_tabW spec_l4Draw.tab5 spec_l4Draw.bits5 (fun HT_ HW_ => ?_)
   generalize wr.drew = w15 at HO_230001 BK225 BK229 HI0 HK HB hHeld ⊢
   refine pu_ 1 17 (m_ 14 2) ?_
   refine pu_ 2 18 (m_ 14 6) ?_
   refine pu_ 5 21 (m_ 14 38) ?_
   refine pu_ 6 22 (m_ 14 102) ?_
   refine tk2_ 0 16 (m_ 14 103) hHeld ?_
   refine tk2_ 3 19 (m_ 14 111) hHeld ?_
   refine tk2_ 7 23 (m_ 14 239) hHeld ?_
   refine on_ 4 20 (m_ 14 255) (fun K hK => ?_)
   refine goes_ Try.func84 (by kernel_rfl) rfl #[.pointer (some ⟨g, 0, none⟩), .int .i64 x230000_1] (by rfl) rfl rfl ar_ ?_
   with_reducible refine (spec_l1Below.calls g s0_0 x1001_1 x1002_1 x230000_1 t233 t234 t235 w0 _ ?side1 ?side2 A12.out).mono ?_
   (case side1 => repeat (first | (with_reducible first | exact HI0.out | apply IsS93.alloc | apply IsS93.drewN | apply IsS93.drew | apply IsS93.set_1 | apply IsS93.set_2 | refine IsS93.far ?_ NB0_225.out _ | refine IsS93.far ?_ NB0_229.out _) | exact HI0.out))
   (case side2 => repeat (first | (with_reducible first | exact HB.out | apply ZA | apply Zm | apply Zq | refine Zr ?_ (IsS93.ge HI0.out) | refine Zr ?_ GE225.out | refine Zr ?_ GE229.out) | exact HB.out))
   rintro e w16 ⟨rfl, hi, hb, hk⟩
   refine ⟨_, rfl, ?_⟩
   replace HO_230001 := Aside0.mk (ZT (Kd.S_keep (IsS93.apartS (show IsS93 w0 _ g s0_0 x1001_1 x1002_1 from by repeat (first | (with_reducible first | exact HI0.out | apply IsS93.alloc | apply IsS93.drewN | apply IsS93.drew | apply IsS93.set_1 | apply IsS93.set_2 | refine IsS93.far ?_ NB0_225.out _ | refine IsS93.far ?_ NB0_229.out _) | exact HI0.out)) (rS_ HO_230001.out) (by decide)) hk (fun _ h => h.2)) (fun _ h => h.1))
   replace BK225 := Aside0.mk (KeepBut.blk hk (g' := gb225) (o := .cells #[.int .i64 0, .slice none 0 0] 27 (0, 0)) (bk_ BK225.out) NB225_0.out (by simp))
   replace BK229 := Aside0.mk (KeepBut.blk hk (g' := gb229) (o := .cells #[.int .i64 x230000_1, u230001] 27 (0, 0)) (bk_ BK229.out) NB229_0.out (by simp))
   replace HK := Aside0.mk (ZP (by repeat (first | (with_reducible first | exact HK.out | apply Zs | apply Zw | apply ZD | apply Zx | refine ZL ?_ GW225.out _ | refine ZL ?_ GW229.out _) | exact HK.out)) hk (.inl rfl))
   replace HB := Aside0.mk (hb)
   replace HI0 := Aside0.mk (hi)
   (try clear hb)
   (try clear hb2)
   (try clear hk)
   (try clear hi)
   refine hK.out _ _ ⟨(Za BK229.out 0).trans rfl, (Za BK229.out 1).trans rfl⟩ (fun hHeld => ?_)
   clear hK K
   refine no_ 20 ?_
   refine on_ 8 24 (m_ 14 511) (fun K hK => ?_)
   refine goes_ Try.func84 (by kernel_rfl) rfl #[.pointer (some ⟨g, 0, none⟩), .int .i64 x230000_1] (by rfl) rfl rfl ar_ ?_
   with_reducible refine (spec_l1Below.calls g s0_0 t234 t235 x230000_1 t236 t237 t238 w0 _ ?side1 ?side2 A13.out).mono ?_
   (case side1 => repeat (first | (with_reducible first | exact HI0.out | apply IsS93.alloc | apply IsS93.drewN | apply IsS93.drew | apply IsS93.set_1 | apply IsS93.set_2 | refine IsS93.far ?_ NB0_225.out _ | refine IsS93.far ?_ NB0_229.out _) | exact HI0.out))
   (case side2 => repeat (first | (with_reducible first | exact HB.out | apply ZA | apply Zm | apply Zq | refine Zr ?_ (IsS93.ge HI0.out) | refine Zr ?_ GE225.out | refine Zr ?_ GE229.out) | exact HB.out))
   rintro e w17 ⟨rfl, hi, hb, hk⟩
   refine ⟨_, rfl, ?_⟩
   replace HO_230001 := Aside0.mk (ZT (Kd.S_keep (IsS93.apartS (show IsS93 w0 _ g s0_0 t234 t235 from by repeat (first | (with_reducible first | exact HI0.out | apply IsS93.alloc | apply IsS93.drewN | apply IsS93.drew | apply IsS93.set_1 | apply IsS93.set_2 | refine IsS93.far ?_ NB0_225.out _ | refine IsS93.far ?_ NB0_229.out _) | exact HI0.out)) (rS_ HO_230001.out) (by decide)) hk (fun _ h => h.2)) (fun _ h => h.1))
   replace BK225 := Aside0.mk (KeepBut.blk hk (g' := gb225) (o := .cells #[.int .i64 0, .slice none 0 0] 27 (0, 0)) (bk_ BK225.out) NB225_0.out (by simp))
   replace BK229 := Aside0.mk (KeepBut.blk hk (g' := gb229) (o := .cells #[.int .i64 x230000_1, u230001] 27 (0, 0)) (bk_ BK229.out) NB229_0.out (by simp))
   replace HK := Aside0.mk (ZP (by repeat (first | (with_reducible first | exact HK.out | apply Zs | apply Zw | apply ZD | apply Zx | refine ZL ?_ GW225.out _ | refine ZL ?_ GW229.out _) | exact HK.out)) hk (.inl rfl))
   replace HB := Aside0.mk (hb)
   replace HI0 := Aside0.mk (hi)
   (try clear hb)
   (try clear hb2)
   (try clear hk)
   (try clear hi)
   obtain ⟨Ao18, co18, eo18⟩ := Kd.S_slice HO_230001.out
   (first | subst eo18 | (injection eo18 with f1_ f2_ f3_; have f4_ := f1_.symm; have f5_ := f3_.symm; clear f1_ f2_ f3_; subst f4_; subst f5_))
   refine hK.out _ _ ⟨(Za BK229.out 0).trans rfl, (Za BK229.out 1).trans rfl⟩ (fun hHeld => ?_)
   clear hK K
   refine no_ 24 ?_
   refine on_ 9 25 (m_ 14 1023) (fun K hK => ?_)
   refine goes_ Try.func102 (by kernel_rfl) rfl #[.agg #[.int .i64 x230000_1, .slice Ao18 x230001_1.length co18], .int .i64 t233, .int .i64 t236] (by rfl) rfl rfl ar_ ?_
   with_reducible refine (spec_AddAttack.calls k1 x230000_1 _ _ x230001_1 t233 t236 t239 t240 t243 _ ?side1 ?side2 A14.out).mono ?_
   (case side1 => exact sA_ (Kd.S_reads' HO_230001.out).2.2)
   (case side2 => exact (Kd.S_reads' HO_230001.out).2.1)
   rintro e w19 ⟨v241, rfl, ho0, hb⟩
   refine ⟨_, rfl, ?_⟩
   have HO242 := Aside0.mk (Kd.S_lower (Kd.S_new' ho0 (Kd.S_lt (rS_ HO_230001.out))) (keep_size (w := w) (g := g) (row := none) (by repeat (first | (with_reducible first | exact HK.out | apply Zs | apply Zw | apply ZD | apply Zx | refine ZL ?_ GW225.out _ | refine ZL ?_ GW229.out _) | exact HK.out))))
   replace HO_230001 := Aside0.mk (Kd.S_elder' (rS_ HO_230001.out) (Kd.S_base ho0) hb)
   replace BK225 := Aside0.mk (Zd (bq_ BK225.out) hb)
   replace BK229 := Aside0.mk (Zd (bq_ BK229.out) hb)
   replace HK := Aside0.mk (ZP (by repeat (first | (with_reducible first | exact HK.out | apply Zs | apply Zw | apply ZD | apply Zx | refine ZL ?_ GW225.out _ | refine ZL ?_ GW229.out _) | exact HK.out)) (KeepBut.of_below hb g none) (.inl rfl))
   replace HB := Aside0.mk (Zc (by repeat (first | (with_reducible first | exact HB.out | apply ZA | apply Zm | apply Zq | refine Zr ?_ (IsS93.ge HI0.out) | refine Zr ?_ GE225.out | refine Zr ?_ GE229.out) | exact HB.out)) hb)
   replace HI0 := Aside0.mk (IsS93.below (by repeat (first | (with_reducible first | exact HI0.out | apply IsS93.alloc | apply IsS93.drewN | apply IsS93.drew | apply IsS93.set_1 | apply IsS93.set_2 | refine IsS93.far ?_ NB0_225.out _ | refine IsS93.far ?_ NB0_229.out _) | exact HI0.out)) hb)
   (try clear hb)
   (try clear hb2)
   (try clear hk)
   (try clear hi)
   (try clear ho0)
   obtain ⟨Ao21, co21, eo21⟩ := Kd.S_slice HO242.out
   (first | subst eo21 | (injection eo21 with f1_ f2_ f3_; have f4_ := f1_.symm; have f5_ := f3_.symm; clear f1_ f2_ f3_; subst f4_; subst f5_))
   refine hK.out _ _ ⟨(Za BK229.out 0).trans rfl, (Za BK229.out 1).trans rfl⟩ (fun hHeld => ?_)
   clear hK K
   refine no_ 25 ?_
   refine pu_ 10 15 (m_ 14 2047) ?_
   refine pu_ 11 26 (m_ 14 4095) ?_
   refine pu_ 12 27 (m_ 14 8191) ?_
   refine last_ (i := 13) (N := none) (m_ 14 16383) rfl rfl (one_of HT_.out (by kernel_rfl)) (by decide) (fun K hK => ?_)
   have hs20 : w19.cell? ⟨gb229, 0, none⟩ = some (.int .i64 x230000_1) := (Za BK229.out 0).trans rfl
   have hfs20 := Zb BK229.out 0
   have hns20_0 := NB225_229.out
   have hms20_0 := NB229_225.out
   have hs22 : w19.cell? ⟨gb229, 1, none⟩ = some (.slice Ao18 x230001_1.length co18) := (Za BK229.out 1).trans rfl
   have hfs22 := Zb BK229.out 1
   have hns22_0 := NB225_229.out
   have hms22_0 := NB229_225.out
   refine skip_ (w1 := ?_) (by rfl) rfl ?_ ?_
   rotate_left
   ·go_simp
    rfl
   refine hK.out _ _ ?_
   clear hK K
   refine done_ (done_of HT_.out (by kernel_rfl)) ?_
   try go_wp2
   go_roundg k1
   case measure => have := HK1.out; omega
   case rel => exact ⟨(wrap64 (x4_1 - 1)), (t237), (t238), (t239), (t240), (.slice Ao21 t240.length co21), sm_, H', ⟨by have := HK1.out; omega⟩, ⟨by (with_reducible repeat (first | apply Kd.S_alloc | apply Kd.S_drewN | apply Kd.S_drew)); exact ZT (Kd.S_far (p := ⟨gb229, 1, none⟩) (Kd.S_far (p := ⟨gb229, 0, none⟩) (Kd.S_types HO242.out BK229.out (by decide)) (fun _ hk => hk.2) (.int .i64 t239)) (fun _ hk => hk.2) (.slice Ao21 t240.length co21)) (fun _ hk => trivial)⟩, ⟨by (with_reducible repeat (first | refine Zk ?_ _ | refine Zj ?_ | refine Zi ?_ _)); refine blk_far ?_ NB225_229.out _; (with_reducible repeat (first | refine Zk ?_ _ | refine Zj ?_ | refine Zi ?_ _)); refine blk_far ?_ NB225_229.out _; (with_reducible repeat (first | refine Zk ?_ _ | refine Zj ?_ | refine Zi ?_ _)); exact BK225.out⟩, ⟨by (with_reducible repeat (first | refine Zk ?_ _ | refine Zj ?_ | refine Zi ?_ _)); refine blk_put (cs := #[.int .i64 t239, .slice Ao18 x230001_1.length co18]) ?_ 1 _ rfl; (with_reducible repeat (first | refine Zk ?_ _ | refine Zj ?_ | refine Zi ?_ _)); refine blk_put (cs := #[.int .i64 x230000_1, .slice Ao18 x230001_1.length co18]) ?_ 0 _ rfl; (with_reducible repeat (first | refine Zk ?_ _ | refine Zj ?_ | refine Zi ?_ _)); exact BK229.out⟩, ⟨by repeat (first | (with_reducible first | exact HI0.out | apply IsS93.alloc | apply IsS93.drewN | apply IsS93.drew | apply IsS93.set_1 | apply IsS93.set_2 | refine IsS93.far ?_ NB0_225.out _ | refine IsS93.far ?_ NB0_229.out _) | exact HI0.out)⟩, ⟨by repeat (first | (with_reducible first | exact HK.out | apply Zs | apply Zw | apply ZD | apply Zx | refine ZL ?_ GW225.out _ | refine ZL ?_ GW229.out _) | exact HK.out)⟩, ⟨by repeat (first | (with_reducible first | exact HB.out | apply ZA | apply Zm | apply Zq | refine Zr ?_ (IsS93.ge HI0.out) | refine Zr ?_ GE225.out | refine Zr ?_ GE229.out) | exact HB.out)⟩⟩

/-! ### spec_l1Int: function 139 -/
def spec_l1Int.f (s0_0 : List Int) (s0_1 : Int) (s0_2 : Int) (l1 : List Int) : Option (Int × Int × Int) := (spec_l1Below.f s0_0 s0_1 s0_2 (l1.length : Int)).bind fun bt244 => (if 0 ≤ bt244.1 then (if bt244.1 < (l1.length : Int) then (some (rd l1 bt244.1, bt244.2.1, bt244.2.2)) else (none)) else (none))
theorem spec_l1Int.calls (g : Nat) (s0_0 : List Int) (s0_1 : Int) (s0_2 : Int) (A1 : Option Addr) (c1 : Nat) (l1 : List Int) (r1 : Int) (r2 : Int) (r3 : Int) (w0 w : World) (hI : IsS93 w0 w g s0_0 s0_1 s0_2) (hB : Below w0.heap.size w0 w) (hr1 : Kd.C (Kd.int .i64) w A1 l1.length l1) (hc1 : l1.length ≤ c1) (hf1 : ∀ ad, A1 = some ad → 0 < l1.length → ad.block ≠ g) (h : spec_l1Int.f s0_0 s0_1 s0_2 l1 = some (r1, r2, r3)) :
  Calls Try.prog 139 #[.pointer (some ⟨g, 0, none⟩), .slice A1 l1.length c1] w fun e w' => e = .returned (.int .i64 r1) ∧ IsS93 w0 w' g s0_0 r2 r3 ∧ Below w0.heap.size w0 w' ∧ KeepBut w w' g none := by
 have HR1 := Aside0.mk hr1
 have HC1 := Aside0.mk hc1
 clear hr1 hc1
 have HI0 := Aside0.mk hI
 have HK := Aside0.mk (KeepBut.refl w g none)
 have HL := Aside0.mk hB.size
 clear hI
 have HW0 := Aside0.mk hB.size
 have HB := Aside0.mk hB
 clear hB
 have H := h
 unfold spec_l1Int.f at H
 clear h
 obtain ⟨⟨t244, t245, t246⟩, A3, H⟩ := bd_ H
 try dsimp only at H
 by_cases c4 : 0 ≤ t244
 rotate_left
 ·rw [if_neg c4] at H
  exact absurd H (by simp)
 rw [if_pos c4] at H
 have c4b0 : decide (0 ≤ t244) = true := decide_eq_true c4
 clear c4
 by_cases c5 : t244 < (l1.length : Int)
 rotate_left
 ·rw [if_neg c5] at H
  exact absurd H (by simp)
 rw [if_pos c5] at H
 have c5b0 : decide (t244 < (l1.length : Int)) = true := decide_eq_true c5
 clear c5
 simp only [Option.some.injEq, Prod.mk.injEq] at H
 obtain ⟨rfl, rfl, rfl⟩ := H
 go_enter Try.func139, Try.ntmps139
 go_wp2_with (first | ((with_reducible refine Zf (f := 84) rfl ?_); refine ZC (some 9) rfl rfl Try.func84 (by kernel_rfl) rfl #[.pointer (some ⟨g, 0, none⟩), .int .i64 (l1.length : Int)] rfl ar_ ?_; (with_reducible refine (spec_l1Below.calls g s0_0 s0_1 s0_2 (l1.length : Int) t244 t245 t246 w0 _ ?side1 ?side2 A3.out).mono ?_); (case side1 => exact qB_ HI0.out); (case side2 => repeat (first | (with_reducible first | exact HB.out | apply ZA | apply Zm | apply Zq | refine Zr ?_ (IsS93.ge HI0.out)) | exact HB.out)); rintro e w6 ⟨rfl, hi, hb, hk⟩; refine ⟨_, rfl, ?_⟩; replace HK := Aside0.mk (ZP (qC_ HK.out) hk (.inl rfl)); replace HB := Aside0.mk (hb); replace HI0 := Aside0.mk (hi); (try clear hb); (try clear hk); (try clear hi); have p247 : 0 ≤ (t244 : Int) := of_decide_eq_true as_; have q247 : t244 < (l1.length : Int) := of_decide_eq_true as_; obtain ⟨ad247, e247, hx247_0⟩ := Zo HR1.out t244 p247 q247; cases e247; replace hx247_0 := keep_cell HK.out hx247_0 (by first | (rw [add_block]; exact hf1 _ rfl (by omega)) | exact hf1 _ rfl (by omega) | exact hf1 ad247 rfl (by omega)); replace p247 := eq_true p247; replace q247 := eq_true q247))
 go_ret
 exact ⟨er_, by exact qB_ HI0.out, by repeat (first | (with_reducible first | exact HB.out | apply ZA | apply Zm | apply Zq | refine Zr ?_ (IsS93.ge HI0.out)) | exact HB.out), by exact qC_ HK.out⟩

/-! ### spec_l4Raw: function 121 -/
def spec_l4Raw.f (s0_0 : List Int) (s0_1 : Int) (s0_2 : Int) : Option (Int × Int × Int) := (spec_l1Int.f s0_0 s0_1 s0_2 (([(-1), 0, 5, 10, 11, 9223372036854775807, (-9223372036854775808)] : List Int))).bind fun bt251 => (some (bt251.1, bt251.2.1, bt251.2.2))
theorem spec_l4Raw.calls (g : Nat) (s0_0 : List Int) (s0_1 : Int) (s0_2 : Int) (r1 : Int) (r2 : Int) (r3 : Int) (w0 w : World) (hI : IsS93 w0 w g s0_0 s0_1 s0_2) (hB : Below w0.heap.size w0 w) (h : spec_l4Raw.f s0_0 s0_1 s0_2 = some (r1, r2, r3)) :
  Calls Try.prog 121 #[.pointer (some ⟨g, 0, none⟩)] w fun e w' => e = .returned (.int .i64 r1) ∧ IsS93 w0 w' g s0_0 r2 r3 ∧ Below w0.heap.size w0 w' ∧ KeepBut w w' g none := by
 have HI0 := Aside0.mk hI
 have HK := Aside0.mk (KeepBut.refl w g none)
 have HL := Aside0.mk hB.size
 clear hI
 have HW0 := Aside0.mk hB.size
 have HB := Aside0.mk hB
 clear hB
 have H := h
 unfold spec_l4Raw.f at H
 clear h
 obtain ⟨y248, hy248⟩ : ∃ y_ : List Int, y_ = (([(-1), 0, 5, 10, 11, 9223372036854775807, (-9223372036854775808)] : List Int)) := ⟨_, rfl⟩
 replace H : ((spec_l1Int.f s0_0 s0_1 s0_2 y248).bind fun bt251 => (some (bt251.1, bt251.2.1, bt251.2.2))) = some (r1, r2, r3) := hy_ hy248 H
 have Ny248 := Aside0.mk hy248
 clear hy248
 obtain ⟨⟨t251, t252, t253⟩, A2, H⟩ := bd_ H
 try dsimp only at H
 simp only [Option.some.injEq, Prod.mk.injEq] at H
 obtain ⟨rfl, rfl, rfl⟩ := H
 go_enter Try.func121, Try.ntmps121
 go_wp2_with (first | ((with_reducible refine Zz (N := 4) rfl ?_); refine Kd.R_lit (Kd.int .i64) _ 3 ?hg (N := 4) ?hd (xs := ([(-1), 0, 5, 10, 11, 9223372036854775807, (-9223372036854775808)] : List Int)) (inner := [.int .i64 (-1), .int .i64 0, .int .i64 5, .int .i64 10, .int .i64 11, .int .i64 9223372036854775807, .int .i64 (-9223372036854775808)]) (ok := fun _ => True) (okp := fun _ => True) ?hr ?hp (fun _ hk => hk) trivial (Below.refl _ _) (Nat.le_refl _) (by simp) ?_; (case hd => rfl); (case hg => rfl); (case hr => first | (go_simp; done) | (go_simp; rfl)); (case hp => exact (Reps.one (show Kd.M (Kd.int .i64) _ _ _ (-1) [.int .i64 (-1)] from rfl) (Reps.one (show Kd.M (Kd.int .i64) _ _ _ 0 [.int .i64 0] from rfl) (Reps.one (show Kd.M (Kd.int .i64) _ _ _ 5 [.int .i64 5] from rfl) (Reps.one (show Kd.M (Kd.int .i64) _ _ _ 10 [.int .i64 10] from rfl) (Reps.one (show Kd.M (Kd.int .i64) _ _ _ 11 [.int .i64 11] from rfl) (Reps.one (show Kd.M (Kd.int .i64) _ _ _ 9223372036854775807 [.int .i64 9223372036854775807] from rfl) (Reps.one (show Kd.M (Kd.int .i64) _ _ _ (-9223372036854775808) [.int .i64 (-9223372036854775808)] from rfl) (Reps.none _ _))))))))); intro v249 w3 ho4 hb hg_ hnew_; clear hg_ hnew_; (first | rw [← Ny248.out] at ho4 | (simp only [Int.reduceToNat] at ho4; rw [← Ny248.out] at ho4)); have HO250 := Aside0.mk (Kd.R_lower ho4 (keep_size (w := w) (g := g) (row := none) (qC_ HK.out))); replace HK := Aside0.mk (ZP (qC_ HK.out) (KeepBut.of_below hb g none) (.inl rfl)); replace HB := Aside0.mk (Zc (by repeat (first | (with_reducible first | exact HB.out | apply ZA | apply Zm | apply Zq | refine Zr ?_ (IsS93.ge HI0.out)) | exact HB.out)) hb); replace HI0 := Aside0.mk (IsS93.below (qB_ HI0.out) hb); clear hb ho4; obtain ⟨Ao5, co5, eo5⟩ := Kd.R_slice HO250.out; subst eo5) | ((with_reducible refine Zf (f := 139) rfl ?_); refine ZC (some 5) rfl rfl Try.func139 (by kernel_rfl) rfl #[.pointer (some ⟨g, 0, none⟩), .slice Ao5 y248.length co5] rfl ar_ ?_; (with_reducible refine (spec_l1Int.calls g s0_0 s0_1 s0_2 _ _ y248 t251 t252 t253 w0 _ ?side1 ?side2 ?side3 ?side4 ?side5 A2.out).mono ?_); (case side1 => exact qB_ HI0.out); (case side2 => repeat (first | (with_reducible first | exact HB.out | apply ZA | apply Zm | apply Zq | refine Zr ?_ (IsS93.ge HI0.out)) | exact HB.out)); (case side3 => exact sA_ (ZE HO250.out).2.2); (case side4 => exact (ZE HO250.out).2.1); (case side5 => exact far_slice (IsS93.own_ne HI0.out HO250.out (by decide))); rintro e w6 ⟨rfl, hi, hb, hk⟩; refine ⟨_, rfl, ?_⟩; replace HO250 := Aside0.mk (ZK (Kd.R_keep (IsS93.apart (show IsS93 w0 _ g s0_0 s0_1 s0_2 from by exact qB_ HI0.out) (rR_ HO250.out) (by decide)) hk (fun _ h => h.2)) (fun _ h => h.1)); replace HK := Aside0.mk (ZP (qC_ HK.out) hk (.inl rfl)); replace HB := Aside0.mk (hb); replace HI0 := Aside0.mk (hi); (try clear hb); (try clear hk); (try clear hi)))
 go_ret
 exact ⟨er_, by exact qB_ HI0.out, by repeat (first | (with_reducible first | exact HB.out | apply ZA | apply Zm | apply Zq | refine Zr ?_ (IsS93.ge HI0.out)) | exact HB.out), by exact qC_ HK.out⟩

/-! ### spec_l4Any: function 96 -/
def spec_l4Any.f (k : Nat) (s0_0 : List Int) (s0_1 : Int) (s0_2 : Int) : Option (Int × (List (List Int)) × Int × Int) := (spec_l4Draw.f k s0_0 s0_1 s0_2).bind fun bt255 => ((spec_l1Below.f s0_0 bt255.2.2.1 bt255.2.2.2 14).bind fun bt262 => (if bt262.1 = 0 then ((spec_l4Raw.f s0_0 bt262.2.1 bt262.2.2).bind fun bt265 => (some (bt265.1, bt255.2.1, bt265.2.1, bt265.2.2))) else (if bt262.1 = 1 then (if bt255.2.1.length < 5864062014805 then (some (bt255.1, (bt255.2.1 ++ [(([0] : List Int))]), bt262.2.1, bt262.2.2)) else (none)) else (if bt262.1 = 2 then ((spec_l1Below.f s0_0 bt262.2.1 bt262.2.2 7).bind fun bt274 => ((spec_l1Below.f s0_0 bt274.2.1 bt274.2.2 7).bind fun bt277 => (if bt255.2.1.length < 5864062014805 then (some (bt255.1, (bt255.2.1 ++ [(([bt274.1, bt277.1] : List Int))]), bt277.2.1, bt277.2.2)) else (none)))) else (some (bt255.1, bt255.2.1, bt262.2.1, bt262.2.2))))))
theorem spec_l4Any.mono : ∀ a0 a1 a2 k, LeO (spec_l4Any.f k a0 a1 a2) (spec_l4Any.f (k + 1) a0 a1 a2) := by
 intro a0 a1 a2 k
 unfold spec_l4Any.f
 repeat' with_reducible first | apply spec_l4Draw.mono | apply Zy | apply Zg | refine Zl ?_ ?_ | refine Zh ?_ (fun _ => ?_)
def spec_l4Any.T8 : Bool × List (List Nat × List Nat) := (true, [([], []), ([0], [0]), ([], []), ([2], [2]), ([], []), ([4, 3], [4]), ([3, 5], [3, 5]), ([6], [6]), ([1, 7, 5], [1, 7]), ([0, 1, 2, 3, 4, 5, 6, 7, 8], []), ([9, 8, 8, 0, 1, 2, 3, 4, 5, 6, 7, 8], [8, 9])])
def spec_l4Any.B8 : List Nat := [0, 1, 0, 4, 0, 28, 60, 124, 255, 511, 1023]
theorem spec_l4Any.tab8 : rtab .any (opsOf Try.f96 8) = spec_l4Any.T8 := by kernel_rfl
theorem spec_l4Any.bits8 : waitsOk spec_l4Any.T8.2 spec_l4Any.B8 = true := by kernel_rfl
theorem spec_l4Any.calls (k : Nat) (g : Nat) (s0_0 : List Int) (s0_1 : Int) (s0_2 : Int) (r1 : Int) (r2 : List (List Int)) (r3 : Int) (r4 : Int) (w0 w : World) (hI : IsS93 w0 w g s0_0 s0_1 s0_2) (hB : Below w0.heap.size w0 w) (h : spec_l4Any.f k s0_0 s0_1 s0_2 = some (r1, r2, r3, r4)) :
  Calls Try.prog 96 #[.pointer (some ⟨g, 0, none⟩)] w fun e w' => ∃ v1_ : Value, e = .returned (.agg #[.int .i64 r1, v1_]) ∧ Kd.S (Kd.slice 3 (Kd.int .i64)) 31 w' w.heap.size (fun _ => True) v1_ r2 ∧ IsS93 w0 w' g s0_0 r3 r4 ∧ Below w0.heap.size w0 w' ∧ KeepBut w w' g none := by
 have hu27 := Try.underlying27
 have HI0 := Aside0.mk hI
 have HK := Aside0.mk (KeepBut.refl w g none)
 have HL := Aside0.mk hB.size
 clear hI
 have HW0 := Aside0.mk hB.size
 have HB := Aside0.mk hB
 clear hB
 have H := h
 unfold spec_l4Any.f at H
 clear h
 obtain ⟨⟨t255, t256, t259, t260⟩, A2, H⟩ := bd_ H
 try dsimp only at H
 obtain ⟨⟨t262, t263, t264⟩, A3, H⟩ := bd_ H
 try dsimp only at H
 by_cases c4 : t262 = 0
 ·rw [if_pos c4] at H
  have c4b0 : (t262 == 0) = true := beq_iff_eq.mpr c4
  have c4b1 : (t262 != 0) = false := bne_eq_false_iff_eq.mpr c4
  clear c4
  obtain ⟨⟨t265, t266, t267⟩, A5, H⟩ := bd_ H
  try dsimp only at H
  simp only [Option.some.injEq, Prod.mk.injEq] at H
  obtain ⟨rfl, rfl, rfl, rfl⟩ := H
  go_enter Try.func96, Try.ntmps96
  go_wp2_with (first | ((with_reducible refine Zz (N := 2) rfl ?_); refine ZI ?hg (N := 2) ?hd (cs := #[.int .i64 0, .slice none 0 0]) (t := 27) ?hr ?_; (case hd => rfl); (case hg => rfl); (case hr => first | (go_simp; done) | (go_simp; rfl)); intro gb254 hg w6 hbox hb; replace HB := Aside0.mk (Zc (by repeat (first | (with_reducible first | exact HB.out | apply ZA | apply Zm | apply Zq | refine Zr ?_ (IsS93.ge HI0.out)) | exact HB.out)) hb); have BK254 := Aside0.mk (hbox); have GW254 := Aside0.mk ((by rw [hg]; exact (keep_size (w := w) (g := g) (row := none) (qC_ HK.out)) : w.heap.size ≤ gb254)); have GE254 := Aside0.mk ((Nat.le_trans HW0.out (by rw [hg]; exact (keep_size (w := w) (g := g) (row := none) (qC_ HK.out)) : w.heap.size ≤ gb254) : w0.heap.size ≤ gb254)); replace HK := Aside0.mk (ZP (qC_ HK.out) (KeepBut.of_below hb g none) (.inl rfl)); have NB0_254 := Aside0.mk ((by rw [hg]; exact Nat.ne_of_lt (IsS93.lt (show IsS93 w0 _ g s0_0 s0_1 s0_2 from by exact qB_ HI0.out)) : g ≠ gb254)); have NB254_0 := Aside0.mk ((by rw [hg]; exact Nat.ne_of_gt (IsS93.lt (show IsS93 w0 _ g s0_0 s0_1 s0_2 from by exact qB_ HI0.out)) : gb254 ≠ g)); replace HI0 := Aside0.mk (IsS93.below (qB_ HI0.out) hb); clear hb hbox hg) | ((with_reducible refine Zf (f := 120) rfl ?_); refine ZC (some 5) rfl rfl Try.func120 (by kernel_rfl) rfl #[.pointer (some ⟨g, 0, none⟩)] rfl ar_ ?_; (with_reducible refine (spec_l4Draw.calls k g s0_0 s0_1 s0_2 t255 t256 t259 t260 w0 _ ?side1 ?side2 A2.out).mono ?_); (case side1 => repeat (first | (with_reducible first | exact HI0.out | apply IsS93.alloc | apply IsS93.drewN | apply IsS93.drew | apply IsS93.set_1 | apply IsS93.set_2 | refine IsS93.far ?_ NB0_254.out _) | exact HI0.out)); (case side2 => repeat (first | (with_reducible first | exact HB.out | apply ZA | apply Zm | apply Zq | refine Zr ?_ (IsS93.ge HI0.out) | refine Zr ?_ GE254.out) | exact HB.out)); rintro e w7 ⟨v257, rfl, ho0, hi, hb, hk⟩; refine ⟨_, rfl, ?_⟩; replace BK254 := Aside0.mk (KeepBut.blk hk (g' := gb254) (o := .cells #[.int .i64 0, .slice none 0 0] 27 (0, 0)) (bk_ BK254.out) NB254_0.out (by simp)); have HO258 := Aside0.mk (Kd.S_lower ho0 (keep_size (w := w) (g := g) (row := none) (by repeat (first | (with_reducible first | exact HK.out | apply Zs | apply Zw | apply ZD | apply Zx | refine ZL ?_ GW254.out _) | exact HK.out)))); replace HK := Aside0.mk (ZP (by repeat (first | (with_reducible first | exact HK.out | apply Zs | apply Zw | apply ZD | apply Zx | refine ZL ?_ GW254.out _) | exact HK.out)) hk (.inl rfl)); replace HB := Aside0.mk (hb); replace HI0 := Aside0.mk (hi); (try clear hb); (try clear hk); (try clear hi); (try clear ho0)) | ((with_reducible refine Zz (N := 3) rfl ?_); refine ZI ?hg (N := 3) ?hd (cs := #[.int .i64 0, .slice none 0 0]) (t := 27) ?hr ?_; (case hd => rfl); (case hg => rfl); (case hr => first | (go_simp; done) | (go_simp; rfl)); intro gb261 hg w8 hbox hb; replace HO258 := Aside0.mk (Kd.S_below (rS_ HO258.out) hb); replace HB := Aside0.mk (Zc (by repeat (first | (with_reducible first | exact HB.out | apply ZA | apply Zm | apply Zq | refine Zr ?_ (IsS93.ge HI0.out) | refine Zr ?_ GE254.out) | exact HB.out)) hb); have BK261 := Aside0.mk (hbox); have GW261 := Aside0.mk ((by rw [hg]; exact (keep_size (w := w) (g := g) (row := none) (by repeat (first | (with_reducible first | exact HK.out | apply Zs | apply Zw | apply ZD | apply Zx | refine ZL ?_ GW254.out _) | exact HK.out))) : w.heap.size ≤ gb261)); have GE261 := Aside0.mk ((Nat.le_trans HW0.out (by rw [hg]; exact (keep_size (w := w) (g := g) (row := none) (by repeat (first | (with_reducible first | exact HK.out | apply Zs | apply Zw | apply ZD | apply Zx | refine ZL ?_ GW254.out _) | exact HK.out))) : w.heap.size ≤ gb261) : w0.heap.size ≤ gb261)); replace HK := Aside0.mk (ZP (by repeat (first | (with_reducible first | exact HK.out | apply Zs | apply Zw | apply ZD | apply Zx | refine ZL ?_ GW254.out _) | exact HK.out)) (KeepBut.of_below hb g none) (.inl rfl)); have NB254_261 := Aside0.mk ((by rw [hg]; exact Nat.ne_of_lt (blk_lt (bq_ BK254.out)) : gb254 ≠ gb261)); have NB261_254 := Aside0.mk ((by rw [hg]; exact Nat.ne_of_gt (blk_lt (bq_ BK254.out)) : gb261 ≠ gb254)); replace BK254 := Aside0.mk (Zd (bq_ BK254.out) hb); have NB0_261 := Aside0.mk ((by rw [hg]; exact Nat.ne_of_lt (IsS93.lt (show IsS93 w0 _ g s0_0 t259 t260 from by repeat (first | (with_reducible first | exact HI0.out | apply IsS93.alloc | apply IsS93.drewN | apply IsS93.drew | apply IsS93.set_1 | apply IsS93.set_2 | refine IsS93.far ?_ NB0_254.out _) | exact HI0.out))) : g ≠ gb261)); have NB261_0 := Aside0.mk ((by rw [hg]; exact Nat.ne_of_gt (IsS93.lt (show IsS93 w0 _ g s0_0 t259 t260 from by repeat (first | (with_reducible first | exact HI0.out | apply IsS93.alloc | apply IsS93.drewN | apply IsS93.drew | apply IsS93.set_1 | apply IsS93.set_2 | refine IsS93.far ?_ NB0_254.out _) | exact HI0.out))) : gb261 ≠ g)); replace HI0 := Aside0.mk (IsS93.below (by repeat (first | (with_reducible first | exact HI0.out | apply IsS93.alloc | apply IsS93.drewN | apply IsS93.drew | apply IsS93.set_1 | apply IsS93.set_2 | refine IsS93.far ?_ NB0_254.out _) | exact HI0.out)) hb); clear hb hbox hg; have hnb9 := NB261_254.out; have hnc9 := NB254_261.out; have hnb10 := NB261_0.out; have hnc10 := NB0_261.out; obtain ⟨hcz11_0, hcz11_1, hfz11_0, hfz11_1⟩ := c2_ BK261.out; obtain ⟨Ao12, co12, eo12⟩ := Kd.S_slice HO258.out; subst eo12) | ((with_reducible refine Zf (f := 84) rfl ?_); refine ZC (some 7) rfl rfl Try.func84 (by kernel_rfl) rfl #[.pointer (some ⟨g, 0, none⟩), .int .i64 14] rfl ar_ ?_; (with_reducible refine (spec_l1Below.calls g s0_0 t259 t260 14 t262 t263 t264 w0 _ ?side1 ?side2 A3.out).mono ?_); (case side1 => repeat (first | (with_reducible first | exact HI0.out | apply IsS93.alloc | apply IsS93.drewN | apply IsS93.drew | apply IsS93.set_1 | apply IsS93.set_2 | refine IsS93.far ?_ NB0_254.out _ | refine IsS93.far ?_ NB0_261.out _) | exact HI0.out)); (case side2 => repeat (first | (with_reducible first | exact HB.out | apply ZA | apply Zm | apply Zq | refine Zr ?_ (IsS93.ge HI0.out) | refine Zr ?_ GE254.out | refine Zr ?_ GE261.out) | exact HB.out)); rintro e w13 ⟨rfl, hi, hb, hk⟩; refine ⟨_, rfl, ?_⟩; replace BK254 := Aside0.mk (KeepBut.blk hk (g' := gb254) (o := .cells #[.int .i64 0, .slice none 0 0] 27 (0, 0)) (by (with_reducible repeat (first | refine Zk ?_ _ | refine Zj ?_ | refine Zi ?_ _)); refine blk_far ?_ NB254_261.out _; (with_reducible repeat (first | refine Zk ?_ _ | refine Zj ?_ | refine Zi ?_ _)); refine blk_far ?_ NB254_261.out _; (with_reducible repeat (first | refine Zk ?_ _ | refine Zj ?_ | refine Zi ?_ _)); exact BK254.out) NB254_0.out (by simp)); replace HO258 := Aside0.mk (ZT (Kd.S_keep (IsS93.apartS (show IsS93 w0 _ g s0_0 t259 t260 from by repeat (first | (with_reducible first | exact HI0.out | apply IsS93.alloc | apply IsS93.drewN | apply IsS93.drew | apply IsS93.set_1 | apply IsS93.set_2 | refine IsS93.far ?_ NB0_254.out _ | refine IsS93.far ?_ NB0_261.out _) | exact HI0.out)) (by (with_reducible repeat (first | apply Kd.S_alloc | apply Kd.S_drewN | apply Kd.S_drew)); exact (ZT (Kd.S_far (p := ⟨gb261, 1, none⟩) (Kd.S_far (p := ⟨gb261, 0, none⟩) (Kd.S_types HO258.out BK261.out (by decide)) (fun _ hk => hk.2) (.int .i64 t255)) (fun _ hk => hk.2) (.slice Ao12 t256.length co12)) (fun _ h_ => h_.1))) (by decide)) hk (fun _ h => h.2)) (fun _ h => h.1)); replace BK261 := Aside0.mk (KeepBut.blk hk (g' := gb261) (o := .cells #[.int .i64 t255, .slice Ao12 t256.length co12] 27 (0, 0)) (by (with_reducible repeat (first | refine Zk ?_ _ | refine Zj ?_ | refine Zi ?_ _)); refine blk_put (cs := #[.int .i64 t255, .slice none 0 0]) ?_ 1 _ rfl; (with_reducible repeat (first | refine Zk ?_ _ | refine Zj ?_ | refine Zi ?_ _)); refine blk_put (cs := #[.int .i64 0, .slice none 0 0]) ?_ 0 _ rfl; (with_reducible repeat (first | refine Zk ?_ _ | refine Zj ?_ | refine Zi ?_ _)); exact BK261.out) NB261_0.out (by simp)); replace HK := Aside0.mk (ZP (by repeat (first | (with_reducible first | exact HK.out | apply Zs | apply Zw | apply ZD | apply Zx | refine ZL ?_ GW254.out _ | refine ZL ?_ GW261.out _) | exact HK.out)) hk (.inl rfl)); replace HB := Aside0.mk (hb); replace HI0 := Aside0.mk (hi); (try clear hb); (try clear hk); (try clear hi)) | ((with_reducible refine Zf (f := 121) rfl ?_); refine ZC (some 11) rfl rfl Try.func121 (by kernel_rfl) rfl #[.pointer (some ⟨g, 0, none⟩)] rfl ar_ ?_; (with_reducible refine (spec_l4Raw.calls g s0_0 t263 t264 t265 t266 t267 w0 _ ?side1 ?side2 A5.out).mono ?_); (case side1 => repeat (first | (with_reducible first | exact HI0.out | apply IsS93.alloc | apply IsS93.drewN | apply IsS93.drew | apply IsS93.set_1 | apply IsS93.set_2 | refine IsS93.far ?_ NB0_254.out _ | refine IsS93.far ?_ NB0_261.out _) | exact HI0.out)); (case side2 => repeat (first | (with_reducible first | exact HB.out | apply ZA | apply Zm | apply Zq | refine Zr ?_ (IsS93.ge HI0.out) | refine Zr ?_ GE254.out | refine Zr ?_ GE261.out) | exact HB.out)); rintro e w14 ⟨rfl, hi, hb, hk⟩; refine ⟨_, rfl, ?_⟩; replace BK254 := Aside0.mk (KeepBut.blk hk (g' := gb254) (o := .cells #[.int .i64 0, .slice none 0 0] 27 (0, 0)) (bk_ BK254.out) NB254_0.out (by simp)); replace HO258 := Aside0.mk (ZT (Kd.S_keep (IsS93.apartS (show IsS93 w0 _ g s0_0 t263 t264 from by repeat (first | (with_reducible first | exact HI0.out | apply IsS93.alloc | apply IsS93.drewN | apply IsS93.drew | apply IsS93.set_1 | apply IsS93.set_2 | refine IsS93.far ?_ NB0_254.out _ | refine IsS93.far ?_ NB0_261.out _) | exact HI0.out)) (rS_ HO258.out) (by decide)) hk (fun _ h => h.2)) (fun _ h => h.1)); replace BK261 := Aside0.mk (KeepBut.blk hk (g' := gb261) (o := .cells #[.int .i64 t255, .slice Ao12 t256.length co12] 27 (0, 0)) (bk_ BK261.out) NB261_0.out (by simp)); replace HK := Aside0.mk (ZP (by repeat (first | (with_reducible first | exact HK.out | apply Zs | apply Zw | apply ZD | apply Zx | refine ZL ?_ GW254.out _ | refine ZL ?_ GW261.out _) | exact HK.out)) hk (.inl rfl)); replace HB := Aside0.mk (hb); replace HI0 := Aside0.mk (hi); (try clear hb); (try clear hk); (try clear hi); obtain ⟨hcz15_0, hcz15_1, hfz15_0, hfz15_1⟩ := c2_ BK261.out; have hnb16 := NB254_0.out; have hnc16 := NB0_254.out; obtain ⟨hcz17_0, hcz17_1, hfz17_0, hfz17_1⟩ := c2_ BK254.out))
  refine bodyPost_ret (results_cell_row rfl _ _ gb254 27 #[.int .i64 t265, .slice Ao12 t256.length co12] (0, 0) _ rfl (by (with_reducible repeat (first | refine Zk ?_ _ | refine Zj ?_ | refine Zi ?_ _)); refine blk_put (cs := #[.int .i64 t265, .slice none 0 0]) ?_ 1 _ rfl; (with_reducible repeat (first | refine Zk ?_ _ | refine Zj ?_ | refine Zi ?_ _)); refine blk_put (cs := #[.int .i64 0, .slice none 0 0]) ?_ 0 _ rfl; (with_reducible repeat (first | refine Zk ?_ _ | refine Zj ?_ | refine Zi ?_ _)); refine blk_far ?_ NB254_261.out _; (with_reducible repeat (first | refine Zk ?_ _ | refine Zj ?_ | refine Zi ?_ _)); exact BK254.out) Try.underlying27 rfl (by kernel_rfl)) rfl ?_
  exact ⟨_, er_, by (with_reducible repeat (first | apply Kd.S_alloc | apply Kd.S_drewN | apply Kd.S_drew)); exact ZT (Kd.S_far (p := ⟨gb254, 1, none⟩) (Kd.S_far (p := ⟨gb254, 0, none⟩) (Kd.S_far (p := ⟨gb261, 0, none⟩) (Kd.S_types (Kd.S_types HO258.out BK261.out (by decide)) BK254.out (by decide)) (fun _ hk => hk.1.2) (.int .i64 t265)) (fun _ hk => hk.2) (.int .i64 t265)) (fun _ hk => hk.2) (.slice Ao12 t256.length co12)) (fun _ hk => trivial), by repeat (first | (with_reducible first | exact HI0.out | apply IsS93.alloc | apply IsS93.drewN | apply IsS93.drew | apply IsS93.set_1 | apply IsS93.set_2 | refine IsS93.far ?_ NB0_254.out _ | refine IsS93.far ?_ NB0_261.out _) | exact HI0.out), by repeat (first | (with_reducible first | exact HB.out | apply ZA | apply Zm | apply Zq | refine Zr ?_ (IsS93.ge HI0.out) | refine Zr ?_ GE254.out | refine Zr ?_ GE261.out) | exact HB.out), by repeat (first | (with_reducible first | exact HK.out | apply Zs | apply Zw | apply ZD | apply Zx | refine ZL ?_ GW254.out _ | refine ZL ?_ GW261.out _) | exact HK.out)⟩
 rw [if_neg c4] at H
 have c4b0 : (t262 == 0) = false := beq_eq_false_iff_ne.mpr c4
 have c4b1 : (t262 != 0) = true := bne_iff_ne.mpr c4
 by_cases c18 : t262 = 1
 ·rw [if_pos c18] at H
  have c18b0 : (t262 == 1) = true := beq_iff_eq.mpr c18
  have c18b1 : (t262 != 1) = false := bne_eq_false_iff_eq.mpr c18
  clear c18
  obtain ⟨y268, hy268⟩ : ∃ y_ : List Int, y_ = (([0] : List Int)) := ⟨_, rfl⟩
  replace H : (if t256.length < 5864062014805 then (some (t255, (t256 ++ [y268]), t263, t264)) else (none)) = some (r1, r2, r3, r4) := hy_ hy268 H
  have Ny268 := Aside0.mk hy268
  clear hy268
  by_cases c19 : t256.length < 5864062014805
  rotate_left
  ·rw [if_neg c19] at H
   exact absurd H (by simp)
  rw [if_pos c19] at H
  have LMc19 := Aside0.mk c19
  clear c19
  obtain ⟨y271, hy271⟩ : ∃ y_ : List (List Int), y_ = (t256 ++ [y268]) := ⟨_, rfl⟩
  replace H : (some (t255, y271, t263, t264)) = some (r1, r2, r3, r4) := hy_ hy271 H
  have Ny271 := Aside0.mk hy271
  clear hy271
  simp only [Option.some.injEq, Prod.mk.injEq] at H
  obtain ⟨rfl, rfl, rfl, rfl⟩ := H
  go_enter Try.func96, Try.ntmps96
  go_wp2_with (first | ((with_reducible refine Zz (N := 2) rfl ?_); refine ZI ?hg (N := 2) ?hd (cs := #[.int .i64 0, .slice none 0 0]) (t := 27) ?hr ?_; (case hd => rfl); (case hg => rfl); (case hr => first | (go_simp; done) | (go_simp; rfl)); intro gb254 hg w20 hbox hb; replace HB := Aside0.mk (Zc (by repeat (first | (with_reducible first | exact HB.out | apply ZA | apply Zm | apply Zq | refine Zr ?_ (IsS93.ge HI0.out)) | exact HB.out)) hb); have BK254 := Aside0.mk (hbox); have GW254 := Aside0.mk ((by rw [hg]; exact (keep_size (w := w) (g := g) (row := none) (qC_ HK.out)) : w.heap.size ≤ gb254)); have GE254 := Aside0.mk ((Nat.le_trans HW0.out (by rw [hg]; exact (keep_size (w := w) (g := g) (row := none) (qC_ HK.out)) : w.heap.size ≤ gb254) : w0.heap.size ≤ gb254)); replace HK := Aside0.mk (ZP (qC_ HK.out) (KeepBut.of_below hb g none) (.inl rfl)); have NB0_254 := Aside0.mk ((by rw [hg]; exact Nat.ne_of_lt (IsS93.lt (show IsS93 w0 _ g s0_0 s0_1 s0_2 from by exact qB_ HI0.out)) : g ≠ gb254)); have NB254_0 := Aside0.mk ((by rw [hg]; exact Nat.ne_of_gt (IsS93.lt (show IsS93 w0 _ g s0_0 s0_1 s0_2 from by exact qB_ HI0.out)) : gb254 ≠ g)); replace HI0 := Aside0.mk (IsS93.below (qB_ HI0.out) hb); clear hb hbox hg) | ((with_reducible refine Zf (f := 120) rfl ?_); refine ZC (some 5) rfl rfl Try.func120 (by kernel_rfl) rfl #[.pointer (some ⟨g, 0, none⟩)] rfl ar_ ?_; (with_reducible refine (spec_l4Draw.calls k g s0_0 s0_1 s0_2 t255 t256 t259 t260 w0 _ ?side1 ?side2 A2.out).mono ?_); (case side1 => repeat (first | (with_reducible first | exact HI0.out | apply IsS93.alloc | apply IsS93.drewN | apply IsS93.drew | apply IsS93.set_1 | apply IsS93.set_2 | refine IsS93.far ?_ NB0_254.out _) | exact HI0.out)); (case side2 => repeat (first | (with_reducible first | exact HB.out | apply ZA | apply Zm | apply Zq | refine Zr ?_ (IsS93.ge HI0.out) | refine Zr ?_ GE254.out) | exact HB.out)); rintro e w21 ⟨v257, rfl, ho0, hi, hb, hk⟩; refine ⟨_, rfl, ?_⟩; replace BK254 := Aside0.mk (KeepBut.blk hk (g' := gb254) (o := .cells #[.int .i64 0, .slice none 0 0] 27 (0, 0)) (bk_ BK254.out) NB254_0.out (by simp)); have HO258 := Aside0.mk (Kd.S_lower ho0 (keep_size (w := w) (g := g) (row := none) (by repeat (first | (with_reducible first | exact HK.out | apply Zs | apply Zw | apply ZD | apply Zx | refine ZL ?_ GW254.out _) | exact HK.out)))); replace HK := Aside0.mk (ZP (by repeat (first | (with_reducible first | exact HK.out | apply Zs | apply Zw | apply ZD | apply Zx | refine ZL ?_ GW254.out _) | exact HK.out)) hk (.inl rfl)); replace HB := Aside0.mk (hb); replace HI0 := Aside0.mk (hi); (try clear hb); (try clear hk); (try clear hi); (try clear ho0)) | ((with_reducible refine Zz (N := 3) rfl ?_); refine ZI ?hg (N := 3) ?hd (cs := #[.int .i64 0, .slice none 0 0]) (t := 27) ?hr ?_; (case hd => rfl); (case hg => rfl); (case hr => first | (go_simp; done) | (go_simp; rfl)); intro gb261 hg w22 hbox hb; replace HO258 := Aside0.mk (Kd.S_below (rS_ HO258.out) hb); replace HB := Aside0.mk (Zc (by repeat (first | (with_reducible first | exact HB.out | apply ZA | apply Zm | apply Zq | refine Zr ?_ (IsS93.ge HI0.out) | refine Zr ?_ GE254.out) | exact HB.out)) hb); have BK261 := Aside0.mk (hbox); have GW261 := Aside0.mk ((by rw [hg]; exact (keep_size (w := w) (g := g) (row := none) (by repeat (first | (with_reducible first | exact HK.out | apply Zs | apply Zw | apply ZD | apply Zx | refine ZL ?_ GW254.out _) | exact HK.out))) : w.heap.size ≤ gb261)); have GE261 := Aside0.mk ((Nat.le_trans HW0.out (by rw [hg]; exact (keep_size (w := w) (g := g) (row := none) (by repeat (first | (with_reducible first | exact HK.out | apply Zs | apply Zw | apply ZD | apply Zx | refine ZL ?_ GW254.out _) | exact HK.out))) : w.heap.size ≤ gb261) : w0.heap.size ≤ gb261)); replace HK := Aside0.mk (ZP (by repeat (first | (with_reducible first | exact HK.out | apply Zs | apply Zw | apply ZD | apply Zx | refine ZL ?_ GW254.out _) | exact HK.out)) (KeepBut.of_below hb g none) (.inl rfl)); have NB254_261 := Aside0.mk ((by rw [hg]; exact Nat.ne_of_lt (blk_lt (bq_ BK254.out)) : gb254 ≠ gb261)); have NB261_254 := Aside0.mk ((by rw [hg]; exact Nat.ne_of_gt (blk_lt (bq_ BK254.out)) : gb261 ≠ gb254)); replace BK254 := Aside0.mk (Zd (bq_ BK254.out) hb); have NB0_261 := Aside0.mk ((by rw [hg]; exact Nat.ne_of_lt (IsS93.lt (show IsS93 w0 _ g s0_0 t259 t260 from by repeat (first | (with_reducible first | exact HI0.out | apply IsS93.alloc | apply IsS93.drewN | apply IsS93.drew | apply IsS93.set_1 | apply IsS93.set_2 | refine IsS93.far ?_ NB0_254.out _) | exact HI0.out))) : g ≠ gb261)); have NB261_0 := Aside0.mk ((by rw [hg]; exact Nat.ne_of_gt (IsS93.lt (show IsS93 w0 _ g s0_0 t259 t260 from by repeat (first | (with_reducible first | exact HI0.out | apply IsS93.alloc | apply IsS93.drewN | apply IsS93.drew | apply IsS93.set_1 | apply IsS93.set_2 | refine IsS93.far ?_ NB0_254.out _) | exact HI0.out))) : gb261 ≠ g)); replace HI0 := Aside0.mk (IsS93.below (by repeat (first | (with_reducible first | exact HI0.out | apply IsS93.alloc | apply IsS93.drewN | apply IsS93.drew | apply IsS93.set_1 | apply IsS93.set_2 | refine IsS93.far ?_ NB0_254.out _) | exact HI0.out)) hb); clear hb hbox hg; have hnb23 := NB261_254.out; have hnc23 := NB254_261.out; have hnb24 := NB261_0.out; have hnc24 := NB0_261.out; obtain ⟨hcz25_0, hcz25_1, hfz25_0, hfz25_1⟩ := c2_ BK261.out; obtain ⟨Ao26, co26, eo26⟩ := Kd.S_slice HO258.out; subst eo26) | ((with_reducible refine Zf (f := 84) rfl ?_); refine ZC (some 7) rfl rfl Try.func84 (by kernel_rfl) rfl #[.pointer (some ⟨g, 0, none⟩), .int .i64 14] rfl ar_ ?_; (with_reducible refine (spec_l1Below.calls g s0_0 t259 t260 14 t262 t263 t264 w0 _ ?side1 ?side2 A3.out).mono ?_); (case side1 => repeat (first | (with_reducible first | exact HI0.out | apply IsS93.alloc | apply IsS93.drewN | apply IsS93.drew | apply IsS93.set_1 | apply IsS93.set_2 | refine IsS93.far ?_ NB0_254.out _ | refine IsS93.far ?_ NB0_261.out _) | exact HI0.out)); (case side2 => repeat (first | (with_reducible first | exact HB.out | apply ZA | apply Zm | apply Zq | refine Zr ?_ (IsS93.ge HI0.out) | refine Zr ?_ GE254.out | refine Zr ?_ GE261.out) | exact HB.out)); rintro e w27 ⟨rfl, hi, hb, hk⟩; refine ⟨_, rfl, ?_⟩; replace BK254 := Aside0.mk (KeepBut.blk hk (g' := gb254) (o := .cells #[.int .i64 0, .slice none 0 0] 27 (0, 0)) (by (with_reducible repeat (first | refine Zk ?_ _ | refine Zj ?_ | refine Zi ?_ _)); refine blk_far ?_ NB254_261.out _; (with_reducible repeat (first | refine Zk ?_ _ | refine Zj ?_ | refine Zi ?_ _)); refine blk_far ?_ NB254_261.out _; (with_reducible repeat (first | refine Zk ?_ _ | refine Zj ?_ | refine Zi ?_ _)); exact BK254.out) NB254_0.out (by simp)); replace HO258 := Aside0.mk (ZT (Kd.S_keep (IsS93.apartS (show IsS93 w0 _ g s0_0 t259 t260 from by repeat (first | (with_reducible first | exact HI0.out | apply IsS93.alloc | apply IsS93.drewN | apply IsS93.drew | apply IsS93.set_1 | apply IsS93.set_2 | refine IsS93.far ?_ NB0_254.out _ | refine IsS93.far ?_ NB0_261.out _) | exact HI0.out)) (by (with_reducible repeat (first | apply Kd.S_alloc | apply Kd.S_drewN | apply Kd.S_drew)); exact (ZT (Kd.S_far (p := ⟨gb261, 1, none⟩) (Kd.S_far (p := ⟨gb261, 0, none⟩) (Kd.S_types HO258.out BK261.out (by decide)) (fun _ hk => hk.2) (.int .i64 t255)) (fun _ hk => hk.2) (.slice Ao26 t256.length co26)) (fun _ h_ => h_.1))) (by decide)) hk (fun _ h => h.2)) (fun _ h => h.1)); replace BK261 := Aside0.mk (KeepBut.blk hk (g' := gb261) (o := .cells #[.int .i64 t255, .slice Ao26 t256.length co26] 27 (0, 0)) (by (with_reducible repeat (first | refine Zk ?_ _ | refine Zj ?_ | refine Zi ?_ _)); refine blk_put (cs := #[.int .i64 t255, .slice none 0 0]) ?_ 1 _ rfl; (with_reducible repeat (first | refine Zk ?_ _ | refine Zj ?_ | refine Zi ?_ _)); refine blk_put (cs := #[.int .i64 0, .slice none 0 0]) ?_ 0 _ rfl; (with_reducible repeat (first | refine Zk ?_ _ | refine Zj ?_ | refine Zi ?_ _)); exact BK261.out) NB261_0.out (by simp)); replace HK := Aside0.mk (ZP (by repeat (first | (with_reducible first | exact HK.out | apply Zs | apply Zw | apply ZD | apply Zx | refine ZL ?_ GW254.out _ | refine ZL ?_ GW261.out _) | exact HK.out)) hk (.inl rfl)); replace HB := Aside0.mk (hb); replace HI0 := Aside0.mk (hi); (try clear hb); (try clear hk); (try clear hi); obtain ⟨hcz28_0, hcz28_1, hfz28_0, hfz28_1⟩ := c2_ BK261.out) | ((with_reducible refine Zz (N := 17) rfl ?_); refine Kd.R_lit (Kd.int .i64) _ 3 ?hg (N := 17) ?hd (xs := ([0] : List Int)) (inner := [.int .i64 0]) (ok := fun _ => True) (okp := fun _ => True) ?hr ?hp (fun _ hk => hk) trivial (Below.refl _ _) (Nat.le_refl _) (by simp) ?_; (case hd => rfl); (case hg => rfl); (case hr => first | (go_simp; done) | (go_simp; rfl)); (case hp => exact (Reps.one (show Kd.M (Kd.int .i64) _ _ _ 0 [.int .i64 0] from rfl) (Reps.none _ _))); intro v269 w29 ho30 hb hg_ hnew_; clear hg_ hnew_; (first | rw [← Ny268.out] at ho30 | (simp only [Int.reduceToNat] at ho30; rw [← Ny268.out] at ho30)); replace HO258 := Aside0.mk (Kd.S_elder' (rS_ HO258.out) (Kd.R_base ho30) hb); have HO270 := Aside0.mk (Kd.R_lower ho30 (keep_size (w := w) (g := g) (row := none) (by repeat (first | (with_reducible first | exact HK.out | apply Zs | apply Zw | apply ZD | apply Zx | refine ZL ?_ GW254.out _ | refine ZL ?_ GW261.out _) | exact HK.out)))); replace BK254 := Aside0.mk (Zd (bq_ BK254.out) hb); replace BK261 := Aside0.mk (Zd (bq_ BK261.out) hb); replace HK := Aside0.mk (ZP (by repeat (first | (with_reducible first | exact HK.out | apply Zs | apply Zw | apply ZD | apply Zx | refine ZL ?_ GW254.out _ | refine ZL ?_ GW261.out _) | exact HK.out)) (KeepBut.of_below hb g none) (.inl rfl)); replace HB := Aside0.mk (Zc (by repeat (first | (with_reducible first | exact HB.out | apply ZA | apply Zm | apply Zq | refine Zr ?_ (IsS93.ge HI0.out) | refine Zr ?_ GE254.out | refine Zr ?_ GE261.out) | exact HB.out)) hb); replace HI0 := Aside0.mk (IsS93.below (by repeat (first | (with_reducible first | exact HI0.out | apply IsS93.alloc | apply IsS93.drewN | apply IsS93.drew | apply IsS93.set_1 | apply IsS93.set_2 | refine IsS93.far ?_ NB0_254.out _ | refine IsS93.far ?_ NB0_261.out _) | exact HI0.out)) hb); clear hb ho30; obtain ⟨Ao32, co32, eo32⟩ := Kd.R_slice HO270.out; subst eo32) | ((with_reducible refine gate_builtin (b := .append) (xs := #[.tmp 16, .tmp 18]) rfl ?_); at_builtin; refine Kd.S_append (Kd.slice 3 (Kd.int .i64)) w.heap.size rfl (.tmp 16) (.tmp 18) 22 31 (.slice none 0 0) 24 rfl Try.underlying22 info31 rfl (by decide) (by omega) (.slice Ao26 t256.length co26) t256 y268 [.slice Ao32 y268.length co32] (fun _ => True) (fun k_ => some k_ = (.slice Ao32 y268.length co32 : Value).ownBlock) rfl rfl ?aP (fun k_ hk_ => ((ZK (ok' := fun k_ => ((fun _ => True)) k_ ∧ some k_ ≠ (.slice Ao26 t256.length co26 : Value).ownBlock) (ZN (HO270.out) (Kd.S_typed HO258.out) (by decide)) (fun k_ hk => ⟨trivial, hk.2⟩))).1 k_ hk_.symm) ?aF ?aO (Below.refl _ _) ?aS ?aL ?_; (case aP => exact Kd.M_row (ZK (Kd.R_tight rfl (ZK (ok' := fun k_ => ((fun _ => True)) k_ ∧ some k_ ≠ (.slice Ao26 t256.length co26 : Value).ownBlock) (ZN (HO270.out) (Kd.S_typed HO258.out) (by decide)) (fun k_ hk => ⟨trivial, hk.2⟩))) (fun _ h_ => h_))); (case aF => exact (fun _ _ => trivial)); (case aO => exact (by (with_reducible repeat (first | apply Kd.S_alloc | apply Kd.S_drewN | apply Kd.S_drew)); exact ZT HO258.out (fun k_ hk => ⟨trivial, fun e_ => hk.2 e_⟩))); (case aS => exact (keep_size (w := w) (g := g) (row := none) (by repeat (first | (with_reducible first | exact HK.out | apply Zs | apply Zw | apply ZD | apply Zx | refine ZL ?_ GW254.out _ | refine ZL ?_ GW261.out _) | exact HK.out)))); (case aL => have := LMc19.out; omega); intro v272 w31 ho hb hg hat; rw [← Ny271.out] at ho; have n0_ := Aside0.mk (IsS93.grown (by repeat (first | (with_reducible first | exact HI0.out | apply IsS93.alloc | apply IsS93.drewN | apply IsS93.drew | apply IsS93.set_1 | apply IsS93.set_2 | refine IsS93.far ?_ NB0_254.out _ | refine IsS93.far ?_ NB0_261.out _) | exact HI0.out)) hg (IsS93.own_neS HI0.out HO258.out (by decide))); have n1_ := Aside0.mk (ZJ (bq_ BK254.out) hg (Kd.S_ne HO258.out BK254.out (by decide))); have n2_ := Aside0.mk (ZJ (bq_ BK261.out) hg (Kd.S_ne HO258.out BK261.out (by decide))); have n3_ := Aside0.mk (below_weaken (by repeat (first | (with_reducible first | exact HB.out | apply ZA | apply Zm | apply Zq | refine Zr ?_ (IsS93.ge HI0.out) | refine Zr ?_ GE254.out | refine Zr ?_ GE261.out) | exact HB.out)) HL.out hb); have n4_ := Aside0.mk (ZP (by repeat (first | (with_reducible first | exact HK.out | apply Zs | apply Zw | apply ZD | apply Zx | refine ZL ?_ GW254.out _ | refine ZL ?_ GW261.out _) | exact HK.out)) (KeepBut.of_grown hg g) (Kd.S_base2 HO258.out)); have n5_ := Aside0.mk (ho); clear HI0; clear BK254; clear BK261; clear HB; clear HK; clear HO258; clear HO270; have HI0 := n0_; have BK254 := n1_; have BK261 := n2_; have HB := n3_; have HK := n4_; have HO273 := n5_; clear n0_ n1_ n2_ n3_ n4_ n5_; clear ho hb hg hat; obtain ⟨Ao33, co33, eo33⟩ := Kd.S_slice HO273.out; subst eo33; obtain ⟨hcz34_0, hcz34_1, hfz34_0, hfz34_1⟩ := c2_ BK261.out; have hnb35 := NB254_0.out; have hnc35 := NB0_254.out; obtain ⟨hcz36_0, hcz36_1, hfz36_0, hfz36_1⟩ := c2_ BK254.out))
  refine bodyPost_ret (results_cell_row rfl _ _ gb254 27 #[.int .i64 t255, .slice Ao33 y271.length co33] (0, 0) _ rfl (by (with_reducible repeat (first | refine Zk ?_ _ | refine Zj ?_ | refine Zi ?_ _)); refine blk_put (cs := #[.int .i64 t255, .slice none 0 0]) ?_ 1 _ rfl; (with_reducible repeat (first | refine Zk ?_ _ | refine Zj ?_ | refine Zi ?_ _)); refine blk_put (cs := #[.int .i64 0, .slice none 0 0]) ?_ 0 _ rfl; (with_reducible repeat (first | refine Zk ?_ _ | refine Zj ?_ | refine Zi ?_ _)); refine blk_far ?_ NB254_261.out _; (with_reducible repeat (first | refine Zk ?_ _ | refine Zj ?_ | refine Zi ?_ _)); exact BK254.out) Try.underlying27 rfl (by kernel_rfl)) rfl ?_
  exact ⟨_, er_, by (with_reducible repeat (first | apply Kd.S_alloc | apply Kd.S_drewN | apply Kd.S_drew)); exact ZT (Kd.S_far (p := ⟨gb254, 1, none⟩) (Kd.S_far (p := ⟨gb254, 0, none⟩) (Kd.S_far (p := ⟨gb261, 1, none⟩) (Kd.S_types (Kd.S_types HO273.out BK261.out (by decide)) BK254.out (by decide)) (fun _ hk => hk.1.2) (.slice Ao33 y271.length co33)) (fun _ hk => hk.2) (.int .i64 t255)) (fun _ hk => hk.2) (.slice Ao33 y271.length co33)) (fun _ hk => trivial), by repeat (first | (with_reducible first | exact HI0.out | apply IsS93.alloc | apply IsS93.drewN | apply IsS93.drew | apply IsS93.set_1 | apply IsS93.set_2 | refine IsS93.far ?_ NB0_254.out _ | refine IsS93.far ?_ NB0_261.out _) | exact HI0.out), by repeat (first | (with_reducible first | exact HB.out | apply ZA | apply Zm | apply Zq | refine Zr ?_ (IsS93.ge HI0.out) | refine Zr ?_ GE254.out | refine Zr ?_ GE261.out) | exact HB.out), by repeat (first | (with_reducible first | exact HK.out | apply Zs | apply Zw | apply ZD | apply Zx | refine ZL ?_ GW254.out _ | refine ZL ?_ GW261.out _) | exact HK.out)⟩
 rw [if_neg c18] at H
 have c18b0 : (t262 == 1) = false := beq_eq_false_iff_ne.mpr c18
 have c18b1 : (t262 != 1) = true := bne_iff_ne.mpr c18
 by_cases c37 : t262 = 2
 rotate_left
 ·rw [if_neg c37] at H
  have c37b0 : (t262 == 2) = false := beq_eq_false_iff_ne.mpr c37
  have c37b1 : (t262 != 2) = true := bne_iff_ne.mpr c37
  simp only [Option.some.injEq, Prod.mk.injEq] at H
  obtain ⟨rfl, rfl, rfl, rfl⟩ := H
  go_enter Try.func96, Try.ntmps96
  go_wp2_with (first | ((with_reducible refine Zz (N := 2) rfl ?_); refine ZI ?hg (N := 2) ?hd (cs := #[.int .i64 0, .slice none 0 0]) (t := 27) ?hr ?_; (case hd => rfl); (case hg => rfl); (case hr => first | (go_simp; done) | (go_simp; rfl)); intro gb254 hg w61 hbox hb; replace HB := Aside0.mk (Zc (by repeat (first | (with_reducible first | exact HB.out | apply ZA | apply Zm | apply Zq | refine Zr ?_ (IsS93.ge HI0.out)) | exact HB.out)) hb); have BK254 := Aside0.mk (hbox); have GW254 := Aside0.mk ((by rw [hg]; exact (keep_size (w := w) (g := g) (row := none) (qC_ HK.out)) : w.heap.size ≤ gb254)); have GE254 := Aside0.mk ((Nat.le_trans HW0.out (by rw [hg]; exact (keep_size (w := w) (g := g) (row := none) (qC_ HK.out)) : w.heap.size ≤ gb254) : w0.heap.size ≤ gb254)); replace HK := Aside0.mk (ZP (qC_ HK.out) (KeepBut.of_below hb g none) (.inl rfl)); have NB0_254 := Aside0.mk ((by rw [hg]; exact Nat.ne_of_lt (IsS93.lt (show IsS93 w0 _ g s0_0 s0_1 s0_2 from by exact qB_ HI0.out)) : g ≠ gb254)); have NB254_0 := Aside0.mk ((by rw [hg]; exact Nat.ne_of_gt (IsS93.lt (show IsS93 w0 _ g s0_0 s0_1 s0_2 from by exact qB_ HI0.out)) : gb254 ≠ g)); replace HI0 := Aside0.mk (IsS93.below (qB_ HI0.out) hb); clear hb hbox hg) | ((with_reducible refine Zf (f := 120) rfl ?_); refine ZC (some 5) rfl rfl Try.func120 (by kernel_rfl) rfl #[.pointer (some ⟨g, 0, none⟩)] rfl ar_ ?_; (with_reducible refine (spec_l4Draw.calls k g s0_0 s0_1 s0_2 t255 t256 t259 t260 w0 _ ?side1 ?side2 A2.out).mono ?_); (case side1 => repeat (first | (with_reducible first | exact HI0.out | apply IsS93.alloc | apply IsS93.drewN | apply IsS93.drew | apply IsS93.set_1 | apply IsS93.set_2 | refine IsS93.far ?_ NB0_254.out _) | exact HI0.out)); (case side2 => repeat (first | (with_reducible first | exact HB.out | apply ZA | apply Zm | apply Zq | refine Zr ?_ (IsS93.ge HI0.out) | refine Zr ?_ GE254.out) | exact HB.out)); rintro e w62 ⟨v257, rfl, ho0, hi, hb, hk⟩; refine ⟨_, rfl, ?_⟩; replace BK254 := Aside0.mk (KeepBut.blk hk (g' := gb254) (o := .cells #[.int .i64 0, .slice none 0 0] 27 (0, 0)) (bk_ BK254.out) NB254_0.out (by simp)); have HO258 := Aside0.mk (Kd.S_lower ho0 (keep_size (w := w) (g := g) (row := none) (by repeat (first | (with_reducible first | exact HK.out | apply Zs | apply Zw | apply ZD | apply Zx | refine ZL ?_ GW254.out _) | exact HK.out)))); replace HK := Aside0.mk (ZP (by repeat (first | (with_reducible first | exact HK.out | apply Zs | apply Zw | apply ZD | apply Zx | refine ZL ?_ GW254.out _) | exact HK.out)) hk (.inl rfl)); replace HB := Aside0.mk (hb); replace HI0 := Aside0.mk (hi); (try clear hb); (try clear hk); (try clear hi); (try clear ho0)) | ((with_reducible refine Zz (N := 3) rfl ?_); refine ZI ?hg (N := 3) ?hd (cs := #[.int .i64 0, .slice none 0 0]) (t := 27) ?hr ?_; (case hd => rfl); (case hg => rfl); (case hr => first | (go_simp; done) | (go_simp; rfl)); intro gb261 hg w63 hbox hb; replace HO258 := Aside0.mk (Kd.S_below (rS_ HO258.out) hb); replace HB := Aside0.mk (Zc (by repeat (first | (with_reducible first | exact HB.out | apply ZA | apply Zm | apply Zq | refine Zr ?_ (IsS93.ge HI0.out) | refine Zr ?_ GE254.out) | exact HB.out)) hb); have BK261 := Aside0.mk (hbox); have GW261 := Aside0.mk ((by rw [hg]; exact (keep_size (w := w) (g := g) (row := none) (by repeat (first | (with_reducible first | exact HK.out | apply Zs | apply Zw | apply ZD | apply Zx | refine ZL ?_ GW254.out _) | exact HK.out))) : w.heap.size ≤ gb261)); have GE261 := Aside0.mk ((Nat.le_trans HW0.out (by rw [hg]; exact (keep_size (w := w) (g := g) (row := none) (by repeat (first | (with_reducible first | exact HK.out | apply Zs | apply Zw | apply ZD | apply Zx | refine ZL ?_ GW254.out _) | exact HK.out))) : w.heap.size ≤ gb261) : w0.heap.size ≤ gb261)); replace HK := Aside0.mk (ZP (by repeat (first | (with_reducible first | exact HK.out | apply Zs | apply Zw | apply ZD | apply Zx | refine ZL ?_ GW254.out _) | exact HK.out)) (KeepBut.of_below hb g none) (.inl rfl)); have NB254_261 := Aside0.mk ((by rw [hg]; exact Nat.ne_of_lt (blk_lt (bq_ BK254.out)) : gb254 ≠ gb261)); have NB261_254 := Aside0.mk ((by rw [hg]; exact Nat.ne_of_gt (blk_lt (bq_ BK254.out)) : gb261 ≠ gb254)); replace BK254 := Aside0.mk (Zd (bq_ BK254.out) hb); have NB0_261 := Aside0.mk ((by rw [hg]; exact Nat.ne_of_lt (IsS93.lt (show IsS93 w0 _ g s0_0 t259 t260 from by repeat (first | (with_reducible first | exact HI0.out | apply IsS93.alloc | apply IsS93.drewN | apply IsS93.drew | apply IsS93.set_1 | apply IsS93.set_2 | refine IsS93.far ?_ NB0_254.out _) | exact HI0.out))) : g ≠ gb261)); have NB261_0 := Aside0.mk ((by rw [hg]; exact Nat.ne_of_gt (IsS93.lt (show IsS93 w0 _ g s0_0 t259 t260 from by repeat (first | (with_reducible first | exact HI0.out | apply IsS93.alloc | apply IsS93.drewN | apply IsS93.drew | apply IsS93.set_1 | apply IsS93.set_2 | refine IsS93.far ?_ NB0_254.out _) | exact HI0.out))) : gb261 ≠ g)); replace HI0 := Aside0.mk (IsS93.below (by repeat (first | (with_reducible first | exact HI0.out | apply IsS93.alloc | apply IsS93.drewN | apply IsS93.drew | apply IsS93.set_1 | apply IsS93.set_2 | refine IsS93.far ?_ NB0_254.out _) | exact HI0.out)) hb); clear hb hbox hg; have hnb64 := NB261_254.out; have hnc64 := NB254_261.out; have hnb65 := NB261_0.out; have hnc65 := NB0_261.out; obtain ⟨hcz66_0, hcz66_1, hfz66_0, hfz66_1⟩ := c2_ BK261.out; obtain ⟨Ao67, co67, eo67⟩ := Kd.S_slice HO258.out; subst eo67) | ((with_reducible refine Zf (f := 84) rfl ?_); refine ZC (some 7) rfl rfl Try.func84 (by kernel_rfl) rfl #[.pointer (some ⟨g, 0, none⟩), .int .i64 14] rfl ar_ ?_; (with_reducible refine (spec_l1Below.calls g s0_0 t259 t260 14 t262 t263 t264 w0 _ ?side1 ?side2 A3.out).mono ?_); (case side1 => repeat (first | (with_reducible first | exact HI0.out | apply IsS93.alloc | apply IsS93.drewN | apply IsS93.drew | apply IsS93.set_1 | apply IsS93.set_2 | refine IsS93.far ?_ NB0_254.out _ | refine IsS93.far ?_ NB0_261.out _) | exact HI0.out)); (case side2 => repeat (first | (with_reducible first | exact HB.out | apply ZA | apply Zm | apply Zq | refine Zr ?_ (IsS93.ge HI0.out) | refine Zr ?_ GE254.out | refine Zr ?_ GE261.out) | exact HB.out)); rintro e w68 ⟨rfl, hi, hb, hk⟩; refine ⟨_, rfl, ?_⟩; replace BK254 := Aside0.mk (KeepBut.blk hk (g' := gb254) (o := .cells #[.int .i64 0, .slice none 0 0] 27 (0, 0)) (by (with_reducible repeat (first | refine Zk ?_ _ | refine Zj ?_ | refine Zi ?_ _)); refine blk_far ?_ NB254_261.out _; (with_reducible repeat (first | refine Zk ?_ _ | refine Zj ?_ | refine Zi ?_ _)); refine blk_far ?_ NB254_261.out _; (with_reducible repeat (first | refine Zk ?_ _ | refine Zj ?_ | refine Zi ?_ _)); exact BK254.out) NB254_0.out (by simp)); replace HO258 := Aside0.mk (ZT (Kd.S_keep (IsS93.apartS (show IsS93 w0 _ g s0_0 t259 t260 from by repeat (first | (with_reducible first | exact HI0.out | apply IsS93.alloc | apply IsS93.drewN | apply IsS93.drew | apply IsS93.set_1 | apply IsS93.set_2 | refine IsS93.far ?_ NB0_254.out _ | refine IsS93.far ?_ NB0_261.out _) | exact HI0.out)) (by (with_reducible repeat (first | apply Kd.S_alloc | apply Kd.S_drewN | apply Kd.S_drew)); exact (ZT (Kd.S_far (p := ⟨gb261, 1, none⟩) (Kd.S_far (p := ⟨gb261, 0, none⟩) (Kd.S_types HO258.out BK261.out (by decide)) (fun _ hk => hk.2) (.int .i64 t255)) (fun _ hk => hk.2) (.slice Ao67 t256.length co67)) (fun _ h_ => h_.1))) (by decide)) hk (fun _ h => h.2)) (fun _ h => h.1)); replace BK261 := Aside0.mk (KeepBut.blk hk (g' := gb261) (o := .cells #[.int .i64 t255, .slice Ao67 t256.length co67] 27 (0, 0)) (by (with_reducible repeat (first | refine Zk ?_ _ | refine Zj ?_ | refine Zi ?_ _)); refine blk_put (cs := #[.int .i64 t255, .slice none 0 0]) ?_ 1 _ rfl; (with_reducible repeat (first | refine Zk ?_ _ | refine Zj ?_ | refine Zi ?_ _)); refine blk_put (cs := #[.int .i64 0, .slice none 0 0]) ?_ 0 _ rfl; (with_reducible repeat (first | refine Zk ?_ _ | refine Zj ?_ | refine Zi ?_ _)); exact BK261.out) NB261_0.out (by simp)); replace HK := Aside0.mk (ZP (by repeat (first | (with_reducible first | exact HK.out | apply Zs | apply Zw | apply ZD | apply Zx | refine ZL ?_ GW254.out _ | refine ZL ?_ GW261.out _) | exact HK.out)) hk (.inl rfl)); replace HB := Aside0.mk (hb); replace HI0 := Aside0.mk (hi); (try clear hb); (try clear hk); (try clear hi); obtain ⟨hcz69_0, hcz69_1, hfz69_0, hfz69_1⟩ := c2_ BK261.out; have hnb70 := NB254_0.out; have hnc70 := NB0_254.out; obtain ⟨hcz71_0, hcz71_1, hfz71_0, hfz71_1⟩ := c2_ BK254.out))
  refine bodyPost_ret (results_cell_row rfl _ _ gb254 27 #[.int .i64 t255, .slice Ao67 t256.length co67] (0, 0) _ rfl (by (with_reducible repeat (first | refine Zk ?_ _ | refine Zj ?_ | refine Zi ?_ _)); refine blk_put (cs := #[.int .i64 t255, .slice none 0 0]) ?_ 1 _ rfl; (with_reducible repeat (first | refine Zk ?_ _ | refine Zj ?_ | refine Zi ?_ _)); refine blk_put (cs := #[.int .i64 0, .slice none 0 0]) ?_ 0 _ rfl; (with_reducible repeat (first | refine Zk ?_ _ | refine Zj ?_ | refine Zi ?_ _)); exact BK254.out) Try.underlying27 rfl (by kernel_rfl)) rfl ?_
  exact ⟨_, er_, by (with_reducible repeat (first | apply Kd.S_alloc | apply Kd.S_drewN | apply Kd.S_drew)); exact ZT (Kd.S_far (p := ⟨gb254, 1, none⟩) (Kd.S_far (p := ⟨gb254, 0, none⟩) (Kd.S_types HO258.out BK254.out (by decide)) (fun _ hk => hk.2) (.int .i64 t255)) (fun _ hk => hk.2) (.slice Ao67 t256.length co67)) (fun _ hk => trivial), by repeat (first | (with_reducible first | exact HI0.out | apply IsS93.alloc | apply IsS93.drewN | apply IsS93.drew | apply IsS93.set_1 | apply IsS93.set_2 | refine IsS93.far ?_ NB0_254.out _ | refine IsS93.far ?_ NB0_261.out _) | exact HI0.out), by repeat (first | (with_reducible first | exact HB.out | apply ZA | apply Zm | apply Zq | refine Zr ?_ (IsS93.ge HI0.out) | refine Zr ?_ GE254.out | refine Zr ?_ GE261.out) | exact HB.out), by repeat (first | (with_reducible first | exact HK.out | apply Zs | apply Zw | apply ZD | apply Zx | refine ZL ?_ GW254.out _ | refine ZL ?_ GW261.out _) | exact HK.out)⟩
 rw [if_pos c37] at H
 have c37b0 : (t262 == 2) = true := beq_iff_eq.mpr c37
 have c37b1 : (t262 != 2) = false := bne_eq_false_iff_eq.mpr c37
 clear c37
 obtain ⟨⟨t274, t275, t276⟩, A38, H⟩ := bd_ H
 try dsimp only at H
 obtain ⟨⟨t277, t278, t279⟩, A39, H⟩ := bd_ H
 try dsimp only at H
 obtain ⟨y280, hy280⟩ : ∃ y_ : List Int, y_ = (([t274, t277] : List Int)) := ⟨_, rfl⟩
 replace H : (if t256.length < 5864062014805 then (some (t255, (t256 ++ [y280]), t278, t279)) else (none)) = some (r1, r2, r3, r4) := hy_ hy280 H
 have Ny280 := Aside0.mk hy280
 clear hy280
 by_cases c40 : t256.length < 5864062014805
 rotate_left
 ·rw [if_neg c40] at H
  exact absurd H (by simp)
 rw [if_pos c40] at H
 have LMc40 := Aside0.mk c40
 clear c40
 obtain ⟨y283, hy283⟩ : ∃ y_ : List (List Int), y_ = (t256 ++ [y280]) := ⟨_, rfl⟩
 replace H : (some (t255, y283, t278, t279)) = some (r1, r2, r3, r4) := hy_ hy283 H
 have Ny283 := Aside0.mk hy283
 clear hy283
 simp only [Option.some.injEq, Prod.mk.injEq] at H
 obtain ⟨rfl, rfl, rfl, rfl⟩ := H
 go_enter Try.func96, Try.ntmps96
 try go_wp2_with (first | ((with_reducible refine Zz (N := 2) rfl ?_); refine ZI ?hg (N := 2) ?hd (cs := #[.int .i64 0, .slice none 0 0]) (t := 27) ?hr ?_; (case hd => rfl); (case hg => rfl); (case hr => first | (go_simp; done) | (go_simp; rfl)); intro gb254 hg w41 hbox hb; replace HB := Aside0.mk (Zc (by repeat (first | (with_reducible first | exact HB.out | apply ZA | apply Zm | apply Zq | refine Zr ?_ (IsS93.ge HI0.out)) | exact HB.out)) hb); have BK254 := Aside0.mk (hbox); have GW254 := Aside0.mk ((by rw [hg]; exact (keep_size (w := w) (g := g) (row := none) (qC_ HK.out)) : w.heap.size ≤ gb254)); have GE254 := Aside0.mk ((Nat.le_trans HW0.out (by rw [hg]; exact (keep_size (w := w) (g := g) (row := none) (qC_ HK.out)) : w.heap.size ≤ gb254) : w0.heap.size ≤ gb254)); replace HK := Aside0.mk (ZP (qC_ HK.out) (KeepBut.of_below hb g none) (.inl rfl)); have NB0_254 := Aside0.mk ((by rw [hg]; exact Nat.ne_of_lt (IsS93.lt (show IsS93 w0 _ g s0_0 s0_1 s0_2 from by exact qB_ HI0.out)) : g ≠ gb254)); have NB254_0 := Aside0.mk ((by rw [hg]; exact Nat.ne_of_gt (IsS93.lt (show IsS93 w0 _ g s0_0 s0_1 s0_2 from by exact qB_ HI0.out)) : gb254 ≠ g)); replace HI0 := Aside0.mk (IsS93.below (qB_ HI0.out) hb); clear hb hbox hg) | ((with_reducible refine Zf (f := 120) rfl ?_); refine ZC (some 5) rfl rfl Try.func120 (by kernel_rfl) rfl #[.pointer (some ⟨g, 0, none⟩)] rfl ar_ ?_; (with_reducible refine (spec_l4Draw.calls k g s0_0 s0_1 s0_2 t255 t256 t259 t260 w0 _ ?side1 ?side2 A2.out).mono ?_); (case side1 => repeat (first | (with_reducible first | exact HI0.out | apply IsS93.alloc | apply IsS93.drewN | apply IsS93.drew | apply IsS93.set_1 | apply IsS93.set_2 | refine IsS93.far ?_ NB0_254.out _) | exact HI0.out)); (case side2 => repeat (first | (with_reducible first | exact HB.out | apply ZA | apply Zm | apply Zq | refine Zr ?_ (IsS93.ge HI0.out) | refine Zr ?_ GE254.out) | exact HB.out)); rintro e w42 ⟨v257, rfl, ho0, hi, hb, hk⟩; refine ⟨_, rfl, ?_⟩; replace BK254 := Aside0.mk (KeepBut.blk hk (g' := gb254) (o := .cells #[.int .i64 0, .slice none 0 0] 27 (0, 0)) (bk_ BK254.out) NB254_0.out (by simp)); have HO258 := Aside0.mk (Kd.S_lower ho0 (keep_size (w := w) (g := g) (row := none) (by repeat (first | (with_reducible first | exact HK.out | apply Zs | apply Zw | apply ZD | apply Zx | refine ZL ?_ GW254.out _) | exact HK.out)))); replace HK := Aside0.mk (ZP (by repeat (first | (with_reducible first | exact HK.out | apply Zs | apply Zw | apply ZD | apply Zx | refine ZL ?_ GW254.out _) | exact HK.out)) hk (.inl rfl)); replace HB := Aside0.mk (hb); replace HI0 := Aside0.mk (hi); (try clear hb); (try clear hk); (try clear hi); (try clear ho0)) | ((with_reducible refine Zz (N := 3) rfl ?_); refine ZI ?hg (N := 3) ?hd (cs := #[.int .i64 0, .slice none 0 0]) (t := 27) ?hr ?_; (case hd => rfl); (case hg => rfl); (case hr => first | (go_simp; done) | (go_simp; rfl)); intro gb261 hg w43 hbox hb; replace HO258 := Aside0.mk (Kd.S_below (rS_ HO258.out) hb); replace HB := Aside0.mk (Zc (by repeat (first | (with_reducible first | exact HB.out | apply ZA | apply Zm | apply Zq | refine Zr ?_ (IsS93.ge HI0.out) | refine Zr ?_ GE254.out) | exact HB.out)) hb); have BK261 := Aside0.mk (hbox); have GW261 := Aside0.mk ((by rw [hg]; exact (keep_size (w := w) (g := g) (row := none) (by repeat (first | (with_reducible first | exact HK.out | apply Zs | apply Zw | apply ZD | apply Zx | refine ZL ?_ GW254.out _) | exact HK.out))) : w.heap.size ≤ gb261)); have GE261 := Aside0.mk ((Nat.le_trans HW0.out (by rw [hg]; exact (keep_size (w := w) (g := g) (row := none) (by repeat (first | (with_reducible first | exact HK.out | apply Zs | apply Zw | apply ZD | apply Zx | refine ZL ?_ GW254.out _) | exact HK.out))) : w.heap.size ≤ gb261) : w0.heap.size ≤ gb261)); replace HK := Aside0.mk (ZP (by repeat (first | (with_reducible first | exact HK.out | apply Zs | apply Zw | apply ZD | apply Zx | refine ZL ?_ GW254.out _) | exact HK.out)) (KeepBut.of_below hb g none) (.inl rfl)); have NB254_261 := Aside0.mk ((by rw [hg]; exact Nat.ne_of_lt (blk_lt (bq_ BK254.out)) : gb254 ≠ gb261)); have NB261_254 := Aside0.mk ((by rw [hg]; exact Nat.ne_of_gt (blk_lt (bq_ BK254.out)) : gb261 ≠ gb254)); replace BK254 := Aside0.mk (Zd (bq_ BK254.out) hb); have NB0_261 := Aside0.mk ((by rw [hg]; exact Nat.ne_of_lt (IsS93.lt (show IsS93 w0 _ g s0_0 t259 t260 from by repeat (first | (with_reducible first | exact HI0.out | apply IsS93.alloc | apply IsS93.drewN | apply IsS93.drew | apply IsS93.set_1 | apply IsS93.set_2 | refine IsS93.far ?_ NB0_254.out _) | exact HI0.out))) : g ≠ gb261)); have NB261_0 := Aside0.mk ((by rw [hg]; exact Nat.ne_of_gt (IsS93.lt (show IsS93 w0 _ g s0_0 t259 t260 from by repeat (first | (with_reducible first | exact HI0.out | apply IsS93.alloc | apply IsS93.drewN | apply IsS93.drew | apply IsS93.set_1 | apply IsS93.set_2 | refine IsS93.far ?_ NB0_254.out _) | exact HI0.out))) : gb261 ≠ g)); replace HI0 := Aside0.mk (IsS93.below (by repeat (first | (with_reducible first | exact HI0.out | apply IsS93.alloc | apply IsS93.drewN | apply IsS93.drew | apply IsS93.set_1 | apply IsS93.set_2 | refine IsS93.far ?_ NB0_254.out _) | exact HI0.out)) hb); clear hb hbox hg; have hnb44 := NB261_254.out; have hnc44 := NB254_261.out; have hnb45 := NB261_0.out; have hnc45 := NB0_261.out; obtain ⟨hcz46_0, hcz46_1, hfz46_0, hfz46_1⟩ := c2_ BK261.out; obtain ⟨Ao47, co47, eo47⟩ := Kd.S_slice HO258.out; subst eo47) | ((with_reducible refine Zf (f := 84) rfl ?_); refine ZC (some 7) rfl rfl Try.func84 (by kernel_rfl) rfl #[.pointer (some ⟨g, 0, none⟩), .int .i64 14] rfl ar_ ?_; (with_reducible refine (spec_l1Below.calls g s0_0 t259 t260 14 t262 t263 t264 w0 _ ?side1 ?side2 A3.out).mono ?_); (case side1 => repeat (first | (with_reducible first | exact HI0.out | apply IsS93.alloc | apply IsS93.drewN | apply IsS93.drew | apply IsS93.set_1 | apply IsS93.set_2 | refine IsS93.far ?_ NB0_254.out _ | refine IsS93.far ?_ NB0_261.out _) | exact HI0.out)); (case side2 => repeat (first | (with_reducible first | exact HB.out | apply ZA | apply Zm | apply Zq | refine Zr ?_ (IsS93.ge HI0.out) | refine Zr ?_ GE254.out | refine Zr ?_ GE261.out) | exact HB.out)); rintro e w48 ⟨rfl, hi, hb, hk⟩; refine ⟨_, rfl, ?_⟩; replace BK254 := Aside0.mk (KeepBut.blk hk (g' := gb254) (o := .cells #[.int .i64 0, .slice none 0 0] 27 (0, 0)) (by (with_reducible repeat (first | refine Zk ?_ _ | refine Zj ?_ | refine Zi ?_ _)); refine blk_far ?_ NB254_261.out _; (with_reducible repeat (first | refine Zk ?_ _ | refine Zj ?_ | refine Zi ?_ _)); refine blk_far ?_ NB254_261.out _; (with_reducible repeat (first | refine Zk ?_ _ | refine Zj ?_ | refine Zi ?_ _)); exact BK254.out) NB254_0.out (by simp)); replace HO258 := Aside0.mk (ZT (Kd.S_keep (IsS93.apartS (show IsS93 w0 _ g s0_0 t259 t260 from by repeat (first | (with_reducible first | exact HI0.out | apply IsS93.alloc | apply IsS93.drewN | apply IsS93.drew | apply IsS93.set_1 | apply IsS93.set_2 | refine IsS93.far ?_ NB0_254.out _ | refine IsS93.far ?_ NB0_261.out _) | exact HI0.out)) (by (with_reducible repeat (first | apply Kd.S_alloc | apply Kd.S_drewN | apply Kd.S_drew)); exact (ZT (Kd.S_far (p := ⟨gb261, 1, none⟩) (Kd.S_far (p := ⟨gb261, 0, none⟩) (Kd.S_types HO258.out BK261.out (by decide)) (fun _ hk => hk.2) (.int .i64 t255)) (fun _ hk => hk.2) (.slice Ao47 t256.length co47)) (fun _ h_ => h_.1))) (by decide)) hk (fun _ h => h.2)) (fun _ h => h.1)); replace BK261 := Aside0.mk (KeepBut.blk hk (g' := gb261) (o := .cells #[.int .i64 t255, .slice Ao47 t256.length co47] 27 (0, 0)) (by (with_reducible repeat (first | refine Zk ?_ _ | refine Zj ?_ | refine Zi ?_ _)); refine blk_put (cs := #[.int .i64 t255, .slice none 0 0]) ?_ 1 _ rfl; (with_reducible repeat (first | refine Zk ?_ _ | refine Zj ?_ | refine Zi ?_ _)); refine blk_put (cs := #[.int .i64 0, .slice none 0 0]) ?_ 0 _ rfl; (with_reducible repeat (first | refine Zk ?_ _ | refine Zj ?_ | refine Zi ?_ _)); exact BK261.out) NB261_0.out (by simp)); replace HK := Aside0.mk (ZP (by repeat (first | (with_reducible first | exact HK.out | apply Zs | apply Zw | apply ZD | apply Zx | refine ZL ?_ GW254.out _ | refine ZL ?_ GW261.out _) | exact HK.out)) hk (.inl rfl)); replace HB := Aside0.mk (hb); replace HI0 := Aside0.mk (hi); (try clear hb); (try clear hk); (try clear hi)))
 replace HO258 := Aside0.mk (Kd.S_drew HO258.out)
 replace BK254 := Aside0.mk (Zj BK254.out)
 replace BK261 := Aside0.mk (Zj BK261.out)
 replace HI0 := Aside0.mk (IsS93.drew HI0.out)
 replace HK := Aside0.mk (ZD HK.out)
 replace HB := Aside0.mk (Zq HB.out)
 refine start_ (n := 11) (S := fun w' => w'.cell? ⟨gb261, 0, none⟩ = some (.int .i64 t255) ∧ w'.cell? ⟨gb261, 1, none⟩ = some (.slice Ao47 t256.length co47)) (ds := [10]) (m_ 11 0) (by kernel_rfl) rfl rfl ⟨(Za BK261.out 0).trans rfl, (Za BK261.out 1).trans rfl⟩ (fun hHeld => ?_); refine with_tabW spec_l4Any.tab8 spec_l4Any.bits8 (fun HT_ HW_ => ?_)
 generalize w48.drew = w49 at HO258 BK254 BK261 HI0 HK HB hHeld ⊢
 refine pu_ 0 23 (m_ 11 1) ?_
 refine pu_ 2 25 (m_ 11 5) ?_
 refine pu_ 4 27 (m_ 11 21) ?_
 refine tk2_ 1 24 (m_ 11 23) hHeld ?_
 refine on_ 3 26 (m_ 11 31) (fun K hK => ?_)
 refine goes_ Try.func84 (by kernel_rfl) rfl #[.pointer (some ⟨g, 0, none⟩), .int .i64 7] (by rfl) rfl rfl ar_ ?_
 with_reducible refine (spec_l1Below.calls g s0_0 t263 t264 7 t274 t275 t276 w0 _ ?side1 ?side2 A38.out).mono ?_
 (case side1 => repeat (first | (with_reducible first | exact HI0.out | apply IsS93.alloc | apply IsS93.drewN | apply IsS93.drew | apply IsS93.set_1 | apply IsS93.set_2 | refine IsS93.far ?_ NB0_254.out _ | refine IsS93.far ?_ NB0_261.out _) | exact HI0.out))
 (case side2 => repeat (first | (with_reducible first | exact HB.out | apply ZA | apply Zm | apply Zq | refine Zr ?_ (IsS93.ge HI0.out) | refine Zr ?_ GE254.out | refine Zr ?_ GE261.out) | exact HB.out))
 rintro e w50 ⟨rfl, hi, hb, hk⟩
 refine ⟨_, rfl, ?_⟩
 replace BK254 := Aside0.mk (KeepBut.blk hk (g' := gb254) (o := .cells #[.int .i64 0, .slice none 0 0] 27 (0, 0)) (bk_ BK254.out) NB254_0.out (by simp))
 replace HO258 := Aside0.mk (ZT (Kd.S_keep (IsS93.apartS (show IsS93 w0 _ g s0_0 t263 t264 from by repeat (first | (with_reducible first | exact HI0.out | apply IsS93.alloc | apply IsS93.drewN | apply IsS93.drew | apply IsS93.set_1 | apply IsS93.set_2 | refine IsS93.far ?_ NB0_254.out _ | refine IsS93.far ?_ NB0_261.out _) | exact HI0.out)) (rS_ HO258.out) (by decide)) hk (fun _ h => h.2)) (fun _ h => h.1))
 replace BK261 := Aside0.mk (KeepBut.blk hk (g' := gb261) (o := .cells #[.int .i64 t255, .slice Ao47 t256.length co47] 27 (0, 0)) (bk_ BK261.out) NB261_0.out (by simp))
 replace HK := Aside0.mk (ZP (by repeat (first | (with_reducible first | exact HK.out | apply Zs | apply Zw | apply ZD | apply Zx | refine ZL ?_ GW254.out _ | refine ZL ?_ GW261.out _) | exact HK.out)) hk (.inl rfl))
 replace HB := Aside0.mk (hb)
 replace HI0 := Aside0.mk (hi)
 (try clear hb)
 (try clear hb2)
 (try clear hk)
 (try clear hi)
 refine hK.out _ _ ⟨(Za BK261.out 0).trans rfl, (Za BK261.out 1).trans rfl⟩ (fun hHeld => ?_)
 clear hK K
 refine no_ 26 ?_
 refine on_ 5 28 (m_ 11 63) (fun K hK => ?_)
 refine goes_ Try.func84 (by kernel_rfl) rfl #[.pointer (some ⟨g, 0, none⟩), .int .i64 7] (by rfl) rfl rfl ar_ ?_
 with_reducible refine (spec_l1Below.calls g s0_0 t275 t276 7 t277 t278 t279 w0 _ ?side1 ?side2 A39.out).mono ?_
 (case side1 => repeat (first | (with_reducible first | exact HI0.out | apply IsS93.alloc | apply IsS93.drewN | apply IsS93.drew | apply IsS93.set_1 | apply IsS93.set_2 | refine IsS93.far ?_ NB0_254.out _ | refine IsS93.far ?_ NB0_261.out _) | exact HI0.out))
 (case side2 => repeat (first | (with_reducible first | exact HB.out | apply ZA | apply Zm | apply Zq | refine Zr ?_ (IsS93.ge HI0.out) | refine Zr ?_ GE254.out | refine Zr ?_ GE261.out) | exact HB.out))
 rintro e w51 ⟨rfl, hi, hb, hk⟩
 refine ⟨_, rfl, ?_⟩
 replace BK254 := Aside0.mk (KeepBut.blk hk (g' := gb254) (o := .cells #[.int .i64 0, .slice none 0 0] 27 (0, 0)) (bk_ BK254.out) NB254_0.out (by simp))
 replace HO258 := Aside0.mk (ZT (Kd.S_keep (IsS93.apartS (show IsS93 w0 _ g s0_0 t275 t276 from by repeat (first | (with_reducible first | exact HI0.out | apply IsS93.alloc | apply IsS93.drewN | apply IsS93.drew | apply IsS93.set_1 | apply IsS93.set_2 | refine IsS93.far ?_ NB0_254.out _ | refine IsS93.far ?_ NB0_261.out _) | exact HI0.out)) (rS_ HO258.out) (by decide)) hk (fun _ h => h.2)) (fun _ h => h.1))
 replace BK261 := Aside0.mk (KeepBut.blk hk (g' := gb261) (o := .cells #[.int .i64 t255, .slice Ao47 t256.length co47] 27 (0, 0)) (bk_ BK261.out) NB261_0.out (by simp))
 replace HK := Aside0.mk (ZP (by repeat (first | (with_reducible first | exact HK.out | apply Zs | apply Zw | apply ZD | apply Zx | refine ZL ?_ GW254.out _ | refine ZL ?_ GW261.out _) | exact HK.out)) hk (.inl rfl))
 replace HB := Aside0.mk (hb)
 replace HI0 := Aside0.mk (hi)
 (try clear hb)
 (try clear hb2)
 (try clear hk)
 (try clear hi)
 refine hK.out _ _ ⟨(Za BK261.out 0).trans rfl, (Za BK261.out 1).trans rfl⟩ (fun hHeld => ?_)
 clear hK K
 refine no_ 28 ?_
 refine on_ 6 29 (m_ 11 127) (fun K hK => ?_)
 refine Kd.R_lit_step (Kd.int .i64) _ 3 ?hg (N := 29) ?hd (xs := ([t274, t277] : List Int)) (inner := [.int .i64 t274, .int .i64 t277]) (ok := fun _ => True) (okp := fun _ => True) ?hr ?hp (fun _ hk => hk) trivial (Below.refl _ _) (Nat.le_refl _) (by simp) ?_; (case hd => rfl); (case hg => rfl); (case hr => first | (go_simp; done) | (go_simp; rfl)); (case hp => exact (Reps.one (show Kd.M (Kd.int .i64) _ _ _ t274 [.int .i64 t274] from rfl) (Reps.one (show Kd.M (Kd.int .i64) _ _ _ t277 [.int .i64 t277] from rfl) (Reps.none _ _))))
 intro v281 w52 ho53 hb hg_ hnew_
 clear hg_ hnew_
 (first | rw [← Ny280.out] at ho53 | (simp only [Int.reduceToNat] at ho53; rw [← Ny280.out] at ho53))
 replace HO258 := Aside0.mk (Kd.S_elder' (rS_ HO258.out) (Kd.R_base ho53) hb)
 have HO282 := Aside0.mk (Kd.R_lower ho53 (keep_size (w := w) (g := g) (row := none) (by repeat (first | (with_reducible first | exact HK.out | apply Zs | apply Zw | apply ZD | apply Zx | refine ZL ?_ GW254.out _ | refine ZL ?_ GW261.out _) | exact HK.out))))
 replace BK254 := Aside0.mk (Zd (bq_ BK254.out) hb)
 replace BK261 := Aside0.mk (Zd (bq_ BK261.out) hb)
 replace HK := Aside0.mk (ZP (by repeat (first | (with_reducible first | exact HK.out | apply Zs | apply Zw | apply ZD | apply Zx | refine ZL ?_ GW254.out _ | refine ZL ?_ GW261.out _) | exact HK.out)) (KeepBut.of_below hb g none) (.inl rfl))
 replace HB := Aside0.mk (Zc (by repeat (first | (with_reducible first | exact HB.out | apply ZA | apply Zm | apply Zq | refine Zr ?_ (IsS93.ge HI0.out) | refine Zr ?_ GE254.out | refine Zr ?_ GE261.out) | exact HB.out)) hb)
 replace HI0 := Aside0.mk (IsS93.below (by repeat (first | (with_reducible first | exact HI0.out | apply IsS93.alloc | apply IsS93.drewN | apply IsS93.drew | apply IsS93.set_1 | apply IsS93.set_2 | refine IsS93.far ?_ NB0_254.out _ | refine IsS93.far ?_ NB0_261.out _) | exact HI0.out)) hb)
 clear hb ho53
 obtain ⟨Ao55, co55, eo55⟩ := Kd.R_slice HO282.out
 (first | subst eo55 | (injection eo55 with f1_ f2_ f3_; have f4_ := f1_.symm; have f5_ := f3_.symm; clear f1_ f2_ f3_; subst f4_; subst f5_))
 refine hK.out _ _ ⟨(Za BK261.out 0).trans rfl, (Za BK261.out 1).trans rfl⟩ (fun hHeld => ?_)
 clear hK K
 refine no_ 29 ?_
 refine on_ 7 30 (m_ 11 255) (fun K hK => ?_)
 refine value_ (w1 := ?_) (v := ?_) (by rfl) rfl ?_ ?_
 rotate_left 2
 ·go_simp
  constructor
  ·rfl
  rfl
 refine hK.out _ _ ⟨(Za (Zi BK261.out _) 0).trans rfl, (Za (Zi BK261.out _) 1).trans rfl⟩ (fun hHeld => ?_)
 clear hK K
 refine no_ 30 ?_
 refine on_ 8 31 (m_ 11 511) (fun K hK => ?_)
 refine Kd.S_append_step (Kd.slice 3 (Kd.int .i64)) w.heap.size (by rfl) (.tmp 24) (.tmp 30) 22 31 (.slice none 0 0) 24 rfl Try.underlying22 info31 rfl (by decide) (by omega) (.slice Ao47 t256.length co47) t256 y280 [.slice Ao55 y280.length co55] (fun _ => True) (fun k_ => some k_ = (.slice Ao55 y280.length co55 : Value).ownBlock) rfl rfl ?aP (fun k_ hk_ => ((ZK (ok' := fun k_ => ((fun _ => True)) k_ ∧ some k_ ≠ (.slice Ao47 t256.length co47 : Value).ownBlock) (ZN (HO282.out) (Kd.S_typed HO258.out) (by decide)) (fun k_ hk => ⟨trivial, hk.2⟩))).1 k_ hk_.symm) ?aF ?aO (Below.refl _ _) ?aS ?aL ?_
 (case aP => exact Kd.M_row (ZK (Kd.R_tight rfl (ZK (ok' := fun k_ => ((fun _ => True)) k_ ∧ some k_ ≠ (.slice Ao47 t256.length co47 : Value).ownBlock) (ZN (HO282.out) (Kd.S_typed HO258.out) (by decide)) (fun k_ hk => ⟨trivial, hk.2⟩))) (fun _ h_ => h_)))
 (case aF => exact (fun _ _ => trivial))
 (case aO => exact (by (with_reducible repeat (first | apply Kd.S_alloc | apply Kd.S_drewN | apply Kd.S_drew)); exact ZT HO258.out (fun k_ hk => ⟨trivial, fun e_ => hk.2 e_⟩)))
 (case aS => exact (keep_size (w := w) (g := g) (row := none) (by repeat (first | (with_reducible first | exact HK.out | apply Zs | apply Zw | apply ZD | apply Zx | refine ZL ?_ GW254.out _ | refine ZL ?_ GW261.out _) | exact HK.out))))
 (case aL => have := LMc40.out; omega)
 intro v284 w54 ho hb hg hat
 rw [← Ny283.out] at ho
 have n0_ := Aside0.mk (IsS93.grown (by repeat (first | (with_reducible first | exact HI0.out | apply IsS93.alloc | apply IsS93.drewN | apply IsS93.drew | apply IsS93.set_1 | apply IsS93.set_2 | refine IsS93.far ?_ NB0_254.out _ | refine IsS93.far ?_ NB0_261.out _) | exact HI0.out)) hg (IsS93.own_neS HI0.out HO258.out (by decide)))
 have n1_ := Aside0.mk (ZJ (bq_ BK254.out) hg (Kd.S_ne HO258.out BK254.out (by decide)))
 have n2_ := Aside0.mk (ZJ (bq_ BK261.out) hg (Kd.S_ne HO258.out BK261.out (by decide)))
 have n3_ := Aside0.mk (below_weaken (by repeat (first | (with_reducible first | exact HB.out | apply ZA | apply Zm | apply Zq | refine Zr ?_ (IsS93.ge HI0.out) | refine Zr ?_ GE254.out | refine Zr ?_ GE261.out) | exact HB.out)) HL.out hb)
 have n4_ := Aside0.mk (ZP (by repeat (first | (with_reducible first | exact HK.out | apply Zs | apply Zw | apply ZD | apply Zx | refine ZL ?_ GW254.out _ | refine ZL ?_ GW261.out _) | exact HK.out)) (KeepBut.of_grown hg g) (Kd.S_base2 HO258.out))
 have n5_ := Aside0.mk (ho)
 clear HI0
 clear BK254
 clear BK261
 clear HB
 clear HK
 clear HO258
 clear HO282
 have HI0 := n0_
 have BK254 := n1_
 have BK261 := n2_
 have HB := n3_
 have HK := n4_
 have HO285 := n5_
 clear n0_ n1_ n2_ n3_ n4_ n5_
 clear ho hb hg hat
 obtain ⟨Ao56, co56, eo56⟩ := Kd.S_slice HO285.out
 (first | subst eo56 | (injection eo56 with f1_ f2_ f3_; have f4_ := f1_.symm; have f5_ := f3_.symm; clear f1_ f2_ f3_; subst f4_; subst f5_))
 refine hK.out _ _ ⟨(Za BK261.out 0).trans rfl, (Za BK261.out 1).trans rfl⟩ (fun hHeld => ?_)
 clear hK K
 refine no_ 31 ?_
 refine pu_ 9 32 (m_ 11 1023) ?_
 refine last_ (i := 10) (N := none) (m_ 11 2047) rfl rfl (one_of HT_.out (by kernel_rfl)) (by decide) (fun K hK => ?_)
 have hs57 : w54.cell? ⟨gb261, 1, none⟩ = some (.slice Ao47 t256.length co47) := (Za BK261.out 1).trans rfl
 have hfs57 := Zb BK261.out 1
 have hns57_0 := NB254_261.out
 have hms57_0 := NB261_254.out
 refine skip_ (w1 := ?_) (by rfl) rfl ?_ ?_
 rotate_left
 ·go_simp
  rfl
 refine hK.out _ _ ?_
 clear hK K
 refine done_ (done_of HT_.out (by kernel_rfl)) ?_
 obtain ⟨hcz58_0, hcz58_1, hfz58_0, hfz58_1⟩ := c2_ BK261.out
 have hnb59 := NB254_0.out
 have hnc59 := NB0_254.out
 obtain ⟨hcz60_0, hcz60_1, hfz60_0, hfz60_1⟩ := c2_ BK254.out
 try go_wp2
 refine bodyPost_ret (results_cell_row rfl _ _ gb254 27 #[.int .i64 t255, .slice Ao56 y283.length co56] (0, 0) _ rfl (by (with_reducible repeat (first | refine Zk ?_ _ | refine Zj ?_ | refine Zi ?_ _)); refine blk_put (cs := #[.int .i64 t255, .slice none 0 0]) ?_ 1 _ rfl; (with_reducible repeat (first | refine Zk ?_ _ | refine Zj ?_ | refine Zi ?_ _)); refine blk_put (cs := #[.int .i64 0, .slice none 0 0]) ?_ 0 _ rfl; (with_reducible repeat (first | refine Zk ?_ _ | refine Zj ?_ | refine Zi ?_ _)); refine blk_far ?_ NB254_261.out _; (with_reducible repeat (first | refine Zk ?_ _ | refine Zj ?_ | refine Zi ?_ _)); exact BK254.out) Try.underlying27 rfl (by kernel_rfl)) rfl ?_
 exact ⟨_, er_, by (with_reducible repeat (first | apply Kd.S_alloc | apply Kd.S_drewN | apply Kd.S_drew)); exact ZT (Kd.S_far (p := ⟨gb254, 1, none⟩) (Kd.S_far (p := ⟨gb254, 0, none⟩) (Kd.S_far (p := ⟨gb261, 1, none⟩) (Kd.S_types (Kd.S_types HO285.out BK261.out (by decide)) BK254.out (by decide)) (fun _ hk => hk.1.2) (.slice Ao56 y283.length co56)) (fun _ hk => hk.2) (.int .i64 t255)) (fun _ hk => hk.2) (.slice Ao56 y283.length co56)) (fun _ hk => trivial), by repeat (first | (with_reducible first | exact HI0.out | apply IsS93.alloc | apply IsS93.drewN | apply IsS93.drew | apply IsS93.set_1 | apply IsS93.set_2 | refine IsS93.far ?_ NB0_254.out _ | refine IsS93.far ?_ NB0_261.out _) | exact HI0.out), by repeat (first | (with_reducible first | exact HB.out | apply ZA | apply Zm | apply Zq | refine Zr ?_ (IsS93.ge HI0.out) | refine Zr ?_ GE254.out | refine Zr ?_ GE261.out) | exact HB.out), by repeat (first | (with_reducible first | exact HK.out | apply Zs | apply Zw | apply ZD | apply Zx | refine ZL ?_ GW254.out _ | refine ZL ?_ GW261.out _) | exact HK.out)⟩

/-! ### spec_DrawIsGraph: function 65 -/
def spec_DrawIsGraph.f (k : Nat) (l0 : List Int) : Option (Int × (List (List Int))) := (spec_l1New.f k l0).bind fun bt287 => ((spec_l4Any.f k bt287.1 bt287.2.1 bt287.2.2).bind fun bt291 => (some (bt291.1, bt291.2.1)))
theorem spec_DrawIsGraph.mono : ∀ a0 k, LeO (spec_DrawIsGraph.f k a0) (spec_DrawIsGraph.f (k + 1) a0) := by
 intro a0 k
 unfold spec_DrawIsGraph.f
 repeat' with_reducible first | apply spec_l1New.mono | apply spec_l4Any.mono | apply Zy | apply Zg | refine Zl ?_ ?_ | refine Zh ?_ (fun _ => ?_)
theorem spec_DrawIsGraph.calls (k : Nat) (A0 : Option Addr) (c0 : Nat) (l0 : List Int) (r1 : Int) (r2 : List (List Int)) (w : World) (hr0 : Kd.C (Kd.int .u8) w A0 l0.length l0) (hc0 : l0.length ≤ c0) (h : spec_DrawIsGraph.f k l0 = some (r1, r2)) :
  Calls Try.prog 65 #[.slice A0 l0.length c0] w fun e w' => ∃ v1_ : Value, e = .returned (.agg #[.int .i64 r1, v1_]) ∧ Kd.S (Kd.slice 3 (Kd.int .i64)) 31 w' w.heap.size (fun _ => True) v1_ r2 ∧ Below w.heap.size w w' := by
 have hu27 := Try.underlying27
 have HR0 := Aside0.mk hr0
 have HC0 := Aside0.mk hc0
 clear hr0 hc0
 have HB := Aside0.mk (Below.refl w.heap.size w)
 have H := h
 unfold spec_DrawIsGraph.f at H
 clear h
 obtain ⟨⟨t287, t288, t289⟩, A2, H⟩ := bd_ H
 try dsimp only at H
 obtain ⟨⟨t291, t292, t295, t296⟩, A3, H⟩ := bd_ H
 try dsimp only at H
 simp only [Option.some.injEq, Prod.mk.injEq] at H
 obtain ⟨rfl, rfl⟩ := H
 go_enter Try.func65, Try.ntmps65
 go_wp2_with (first | ((with_reducible refine Zz (N := 2) rfl ?_); refine ZI ?hg (N := 2) ?hd (cs := #[.int .i64 0, .slice none 0 0]) (t := 27) ?hr ?_; (case hd => rfl); (case hg => rfl); (case hr => first | (go_simp; done) | (go_simp; rfl)); intro gb286 hg w4 hbox hb; have BK286 := Aside0.mk (hbox); have GW286 := Aside0.mk ((hz_ hg : w.heap.size ≤ gb286)); have GE286 := Aside0.mk ((hz_ hg : w.heap.size ≤ gb286)); replace HB := Aside0.mk (Zc hB_ hb); clear hb hbox hg) | ((with_reducible refine Zf (f := 82) rfl ?_); refine ZC (some 5) rfl rfl Try.func82 (by kernel_rfl) rfl #[.slice A0 l0.length c0] rfl ar_ ?_; (with_reducible refine (spec_l1New.calls k _ _ l0 t287 t288 t289 w _ ?side1 ?side2 ?side3 A2.out).mono ?_); (case side1 => repeat (first | (with_reducible first | exact HB.out | apply ZA | apply Zm | apply Zq | refine Zr ?_ GE286.out) | exact HB.out)); (case side2 => exact HR0.out); (case side3 => exact HC0.out); rintro e w5 ⟨g290, rfl, hi, hb, hb2⟩; refine ⟨_, rfl, ?_⟩; replace HB := Aside0.mk (hb); have HI290 := Aside0.mk (hi); have NB290_286 := Aside0.mk (IsS93.ne_blk hi (Zd (bq_ BK286.out) hb2) (by decide)); have NB286_290 := Aside0.mk (Ne.symm (IsS93.ne_blk hi (Zd (bq_ BK286.out) hb2) (by decide))); replace BK286 := Aside0.mk (Zd (bq_ BK286.out) hb2); (try clear hb); (try clear hb2); (try clear hk); (try clear hi)) | ((with_reducible refine Zf (f := 96) rfl ?_); refine ZC (some 7) rfl rfl Try.func96 (by kernel_rfl) rfl #[.pointer (some ⟨g290, 0, none⟩)] rfl ar_ ?_; (with_reducible refine (spec_l4Any.calls k g290 t287 t288 t289 t291 t292 t295 t296 w _ ?side1 ?side2 A3.out).mono ?_); (case side1 => repeat (first | (with_reducible first | exact HI290.out | apply IsS93.alloc | apply IsS93.drewN | apply IsS93.drew | apply IsS93.set_1 | apply IsS93.set_2 | refine IsS93.far ?_ NB290_286.out _) | exact HI290.out)); (case side2 => repeat (first | (with_reducible first | exact HB.out | apply ZA | apply Zm | apply Zq | refine Zr ?_ (IsS93.ge HI290.out) | refine Zr ?_ GE286.out) | exact HB.out)); rintro e w6 ⟨v293, rfl, ho0, hi, hb, hk⟩; refine ⟨_, rfl, ?_⟩; replace BK286 := Aside0.mk (KeepBut.blk hk (g' := gb286) (o := .cells #[.int .i64 0, .slice none 0 0] 27 (0, 0)) (bk_ BK286.out) NB286_290.out (by simp)); have HO294 := Aside0.mk (Kd.S_lower ho0 (Ze (by repeat (first | (with_reducible first | exact HB.out | apply ZA | apply Zm | apply Zq | refine Zr ?_ (IsS93.ge HI290.out) | refine Zr ?_ GE286.out) | exact HB.out)))); replace HB := Aside0.mk (hb); replace HI290 := Aside0.mk (hi); (try clear hb); (try clear hb2); (try clear hk); (try clear hi); (try clear ho0); have hnb7 := NB286_290.out; have hnc7 := NB290_286.out; obtain ⟨hcz8_0, hcz8_1, hfz8_0, hfz8_1⟩ := c2_ BK286.out; obtain ⟨Ao9, co9, eo9⟩ := Kd.S_slice HO294.out; subst eo9))
 refine bodyPost_ret (results_cell_row rfl _ _ gb286 27 #[.int .i64 t291, .slice Ao9 t292.length co9] (0, 0) _ rfl (by (with_reducible repeat (first | refine Zk ?_ _ | refine Zj ?_ | refine Zi ?_ _)); refine blk_put (cs := #[.int .i64 t291, .slice none 0 0]) ?_ 1 _ rfl; (with_reducible repeat (first | refine Zk ?_ _ | refine Zj ?_ | refine Zi ?_ _)); refine blk_put (cs := #[.int .i64 0, .slice none 0 0]) ?_ 0 _ rfl; (with_reducible repeat (first | refine Zk ?_ _ | refine Zj ?_ | refine Zi ?_ _)); exact BK286.out) Try.underlying27 rfl (by kernel_rfl)) rfl ?_
 exact ⟨_, er_, by (with_reducible repeat (first | apply Kd.S_alloc | apply Kd.S_drewN | apply Kd.S_drew)); exact ZT (Kd.S_far (p := ⟨gb286, 1, none⟩) (Kd.S_far (p := ⟨gb286, 0, none⟩) (Kd.S_types HO294.out BK286.out (by decide)) (fun _ hk => hk.2) (.int .i64 t291)) (fun _ hk => hk.2) (.slice Ao9 t292.length co9)) (fun _ hk => trivial), by repeat (first | (with_reducible first | exact HB.out | apply ZA | apply Zm | apply Zq | refine Zr ?_ (IsS93.ge HI290.out) | refine Zr ?_ GE286.out) | exact HB.out)⟩

end Go.Proofs.Ytdlobolnajcfnaa.PFnPositions
