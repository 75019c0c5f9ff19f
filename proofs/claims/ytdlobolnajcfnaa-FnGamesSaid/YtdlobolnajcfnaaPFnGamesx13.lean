-- Written by a program of this session (hooks of mine on the print): Lean checks it.
import Derived.Test.YtdlobolnajcfnaaPFnGamesx0
import Derived.Test.YtdlobolnajcfnaaPFnGamesx9
import Derived.Test.YtdlobolnajcfnaaPFnGamesx12
namespace Go.Proofs.Ytdlobolnajcfnaa.PFnGames
open Go.RowKit Go.Proofs.YtdlobolnajcfnaaW.PrintWords Go.Proofs.YtdlobolnajcfnaaW.PrintLast Go.Proofs.YtdlobolnajcfnaaW.PrintMore
attribute [local go_sem] max2_int min2_int max_two min_two max_three min_three max_four min_four   -- for this text's walks alone
set_option linter.unusedVariables false
set_option linter.unusedSimpArgs false

/-! ### spec_l8Small: function 83 -/
def spec_l8Small.l0 : Nat → Int → List Int → Int → Int → Int → List (List Int) → Option (Int × (List (List Int)) × Int × Int)
 | 0, _, _, _, _, _, _ => none
 | k + 1, x4, x1000, x1001, x1002, x349000, x349001 => if x4 > 0 then ((spec_l1Below.f x1000 x1001 x1002 x349000).bind fun bt352 => ((spec_l1Below.f x1000 bt352.2.1 bt352.2.2 x349000).bind fun bt355 => ((spec_AddAttack.f k x349000 x349001 bt352.1 bt355.1).bind fun bt358 => (spec_l8Small.l0 k (wrap64 (x4 - 1)) x1000 bt355.2.1 bt355.2.2 bt358.1 bt358.2.1)))) else ((spec_l1Once.f x1000 x1001 x1002 12).bind fun bt363 => (if bt363.1 = true then (some ((-1), x349001, bt363.2.1, bt363.2.2)) else (some (x349000, x349001, bt363.2.1, bt363.2.2))))
def spec_l8Small.f (k : Nat) (s0_0 : List Int) (s0_1 : Int) (s0_2 : Int) : Option (Int × (List (List Int)) × Int × Int) := (spec_l1Below.f s0_0 s0_1 s0_2 5).bind fun bt345 => ((spec_l1Below.f s0_0 bt345.2.1 bt345.2.2 8).bind fun bt349 => (spec_l8Small.l0 k bt349.1 s0_0 bt349.2.1 bt349.2.2 (wrap64 (1 + bt345.1)) ([] : List (List Int))))
theorem spec_l8Small.mono_l : ∀ k, (∀ y0 y1 y2 y3 y4 y5, LeO (spec_l8Small.l0 k y0 y1 y2 y3 y4 y5) (spec_l8Small.l0 (k + 1) y0 y1 y2 y3 y4 y5))
 | 0 => fun _ _ _ _ _ _ r h => by simp [spec_l8Small.l0] at h
 | k + 1 => by
  have ih0 := spec_l8Small.mono_l k
  ·intro y0 y1 y2 y3 y4 y5
   unfold spec_l8Small.l0
   repeat' first
   | (with_reducible exact ih0 _ _ _ _ _ _)
   | (with_reducible exact spec_AddAttack.mono _ _ _ _ _)
   | (with_reducible exact ZJ _)
   | (with_reducible exact Zn _)
   | (with_reducible refine Zt ?_ ?_)
   | (with_reducible refine Zo ?_ (fun _ => ?_))
   | exact ih0 _ _ _ _ _ _
   | exact spec_AddAttack.mono _ _ _ _ _
   | exact Zn _
   | refine Zt ?_ ?_
   | refine Zo ?_ (fun _ => ?_)
theorem spec_l8Small.mono : ∀ a0 a1 a2 k, LeO (spec_l8Small.f k a0 a1 a2) (spec_l8Small.f (k + 1) a0 a1 a2) := by
 intro a0 a1 a2 k
 have ih0 := spec_l8Small.mono_l k
 unfold spec_l8Small.f
 repeat' first
   | (with_reducible exact ih0 _ _ _ _ _ _)
   | (with_reducible exact spec_AddAttack.mono _ _ _ _ _)
   | (with_reducible exact ZJ _)
   | (with_reducible exact Zn _)
   | (with_reducible refine Zt ?_ ?_)
   | (with_reducible refine Zo ?_ (fun _ => ?_))
   | exact ih0 _ _ _ _ _ _
   | exact spec_AddAttack.mono _ _ _ _ _
   | exact Zn _
   | refine Zt ?_ ?_
   | refine Zo ?_ (fun _ => ?_)
def spec_l8Small.T5 : Bool × List (List Nat × List Nat) := (true, [([], []), ([], []), ([], []), ([2], [2]), ([1, 3], [1, 3]), ([], []), ([], []), ([6], [6]), ([5, 7, 4], [5, 7]), ([0, 4, 8, 8], [0, 4, 8]), ([9], [9]), ([10], [10]), ([10], [10]), ([11, 9, 0, 1, 2, 3, 4, 5, 6, 7, 8, 9, 10, 11], [11])])
def spec_l8Small.B5 : List Nat := [0, 0, 0, 4, 14, 0, 0, 64, 254, 511, 1023, 2047, 2047, 4095]
theorem spec_l8Small.tab5 : rtab .any (opsOf Try.f83 5) = spec_l8Small.T5 := by kernel_rfl
theorem spec_l8Small.bits5 : waitsOk spec_l8Small.T5.2 spec_l8Small.B5 = true := by kernel_rfl
set_option maxHeartbeats 8000000 in
set_option maxRecDepth 100000 in
theorem spec_l8Small.calls (k : Nat) (g : Nat) (s0_0 : List Int) (s0_1 : Int) (s0_2 : Int) (r1 : Int) (r2 : List (List Int)) (r3 : Int) (r4 : Int) (w0 w : World) (hI : IsS93 w0 w g s0_0 s0_1 s0_2) (hB : Below w0.heap.size w0 w) (h : spec_l8Small.f k s0_0 s0_1 s0_2 = some (r1, r2, r3, r4)) :
  Calls Try.prog 83 #[.pointer (some ⟨g, 0, none⟩)] w fun e w' => ∃ v1_ : Value, e = .returned (.agg #[.int .i64 r1, v1_]) ∧ Kd.S (Kd.slice 3 (Kd.int .i64)) 31 w' w.heap.size (fun _ => True) v1_ r2 ∧ IsS93 w0 w' g s0_0 r3 r4 ∧ Below w0.heap.size w0 w' ∧ KeepBut w w' g none := by
 have hu27 := Try.underlying27
 have HI0 := Aside0.mk hI
 have HK := Aside0.mk (KeepBut.refl w g none)
 have HL := Aside0.mk hB.size
 clear hI
 have HW0 := Aside0.mk hB.size
 have HB := Aside0.mk hB
 clear hB
 have H : ((spec_l1Below.f s0_0 s0_1 s0_2 5).bind fun bt345 => ((spec_l1Below.f s0_0 bt345.2.1 bt345.2.2 8).bind fun bt349 => (spec_l8Small.l0 k bt349.1 s0_0 bt349.2.1 bt349.2.2 (wrap64 (1 + bt345.1)) ([] : List (List Int))))) = some (r1, r2, r3, r4) := h
 clear h
 replace H := Option.bind_eq_some_iff.mp H
 obtain ⟨⟨t345, t346, t347⟩, A20, H⟩ := H
 replace H : ((spec_l1Below.f s0_0 t346 t347 8).bind fun bt349 => (spec_l8Small.l0 k bt349.1 s0_0 bt349.2.1 bt349.2.2 (wrap64 (1 + t345)) ([] : List (List Int)))) = some (r1, r2, r3, r4) := H
 have A2 := Aside0.mk A20
 clear A20
 replace H := Option.bind_eq_some_iff.mp H
 obtain ⟨⟨t349, t350, t351⟩, A30, H⟩ := H
 replace H : (spec_l8Small.l0 k t349 s0_0 t350 t351 (wrap64 (1 + t345)) ([] : List (List Int))) = some (r1, r2, r3, r4) := H
 have A3 := Aside0.mk A30
 clear A30
 have H' := Aside0.mk H
 clear H
 go_enter Try.func83, Try.ntmps83
 go_wp2_with (first | ((with_reducible refine ZD (N := 2) rfl ?_); refine ZH ?hg (N := 2) ?hd (cs := #[.int .i64 0, .slice none 0 0]) (t := 27) ?hr ?_; (case hd => rfl); (case hg => rfl); (case hr => first | (go_simp; done) | (go_simp; rfl)); intro gb344 hg w4 hbox hb; replace HB := Aside0.mk (Ze (by repeat (first | (with_reducible first | exact HB.out | apply Zq | apply Zm | apply Zi | refine Zh ?_ (IsS93.ge HI0.out)) | exact HB.out)) hb); have BK344 := Aside0.mk (hbox); have GW344 := Aside0.mk ((by rw [hg]; exact (keep_size (w := w) (g := g) (row := none) (by repeat (first | (with_reducible first | exact HK.out | apply ZF | apply ZL | apply ZQ | apply ZM) | exact HK.out))) : w.heap.size ≤ gb344)); have GE344 := Aside0.mk ((Nat.le_trans HW0.out (by rw [hg]; exact (keep_size (w := w) (g := g) (row := none) (by repeat (first | (with_reducible first | exact HK.out | apply ZF | apply ZL | apply ZQ | apply ZM) | exact HK.out))) : w.heap.size ≤ gb344) : w0.heap.size ≤ gb344)); replace HK := Aside0.mk (KeepBut.trans (by repeat (first | (with_reducible first | exact HK.out | apply ZF | apply ZL | apply ZQ | apply ZM) | exact HK.out)) (KeepBut.of_below hb g none) (.inl rfl)); have NB0_344 := Aside0.mk ((by rw [hg]; exact Nat.ne_of_lt (IsS93.lt (show IsS93 w0 _ g s0_0 s0_1 s0_2 from by repeat (first | (with_reducible first | exact HI0.out | apply IsS93.alloc | apply IsS93.drewN | apply IsS93.drew | apply IsS93.set_1 | apply IsS93.set_2) | exact HI0.out))) : g ≠ gb344)); have NB344_0 := Aside0.mk ((by rw [hg]; exact Nat.ne_of_gt (IsS93.lt (show IsS93 w0 _ g s0_0 s0_1 s0_2 from by repeat (first | (with_reducible first | exact HI0.out | apply IsS93.alloc | apply IsS93.drewN | apply IsS93.drew | apply IsS93.set_1 | apply IsS93.set_2) | exact HI0.out))) : gb344 ≠ g)); replace HI0 := Aside0.mk (IsS93.below (by repeat (first | (with_reducible first | exact HI0.out | apply IsS93.alloc | apply IsS93.drewN | apply IsS93.drew | apply IsS93.set_1 | apply IsS93.set_2) | exact HI0.out)) hb); clear hb hbox hg) | ((with_reducible refine Zj (f := 84) rfl ?_); refine ZE (some 6) rfl rfl Try.func84 (by kernel_rfl) rfl #[.pointer (some ⟨g, 0, none⟩), .int .i64 5] rfl ar_ ?_; (with_reducible refine (spec_l1Below.calls g s0_0 s0_1 s0_2 5 t345 t346 t347 w0 _ ?side1 ?side2 A2.out).mono ?_); (case side1 => repeat (first | (with_reducible first | exact HI0.out | apply IsS93.alloc | apply IsS93.drewN | apply IsS93.drew | apply IsS93.set_1 | apply IsS93.set_2 | refine IsS93.far ?_ NB0_344.out _) | exact HI0.out)); (case side2 => repeat (first | (with_reducible first | exact HB.out | apply Zq | apply Zm | apply Zi | refine Zh ?_ (IsS93.ge HI0.out) | refine Zh ?_ GE344.out) | exact HB.out)); rintro e w5 ⟨rfl, hi, hb, hk⟩; refine ⟨_, rfl, ?_⟩; replace BK344 := Aside0.mk (KeepBut.blk hk (g' := gb344) (o := .cells #[.int .i64 0, .slice none 0 0] 27 (0, 0)) (bk_ BK344.out) NB344_0.out (by simp)); replace HK := Aside0.mk (KeepBut.trans (by repeat (first | (with_reducible first | exact HK.out | apply ZF | apply ZL | apply ZQ | apply ZM | refine keep_far ?_ GW344.out _) | exact HK.out)) hk (.inl rfl)); replace HB := Aside0.mk (hb); replace HI0 := Aside0.mk (hi); (try clear hb); (try clear hb2); (try clear hk); (try clear hi)) | ((with_reducible refine ZD (N := 3) rfl ?_); refine ZH ?hg (N := 3) ?hd (cs := #[.int .i64 0, .slice none 0 0]) (t := 27) ?hr ?_; (case hd => rfl); (case hg => rfl); (case hr => first | (go_simp; done) | (go_simp; rfl)); intro gb348 hg w6 hbox hb; replace HB := Aside0.mk (Ze (by repeat (first | (with_reducible first | exact HB.out | apply Zq | apply Zm | apply Zi | refine Zh ?_ (IsS93.ge HI0.out) | refine Zh ?_ GE344.out) | exact HB.out)) hb); have BK348 := Aside0.mk (hbox); have GW348 := Aside0.mk ((by rw [hg]; exact (keep_size (w := w) (g := g) (row := none) (by repeat (first | (with_reducible first | exact HK.out | apply ZF | apply ZL | apply ZQ | apply ZM | refine keep_far ?_ GW344.out _) | exact HK.out))) : w.heap.size ≤ gb348)); have GE348 := Aside0.mk ((Nat.le_trans HW0.out (by rw [hg]; exact (keep_size (w := w) (g := g) (row := none) (by repeat (first | (with_reducible first | exact HK.out | apply ZF | apply ZL | apply ZQ | apply ZM | refine keep_far ?_ GW344.out _) | exact HK.out))) : w.heap.size ≤ gb348) : w0.heap.size ≤ gb348)); replace HK := Aside0.mk (KeepBut.trans (by repeat (first | (with_reducible first | exact HK.out | apply ZF | apply ZL | apply ZQ | apply ZM | refine keep_far ?_ GW344.out _) | exact HK.out)) (KeepBut.of_below hb g none) (.inl rfl)); have NB344_348 := Aside0.mk ((by rw [hg]; exact Nat.ne_of_lt (blk_lt (g := gb344) (o := .cells #[.int .i64 0, .slice none 0 0] 27 (0, 0)) (bk_ BK344.out)) : gb344 ≠ gb348)); have NB348_344 := Aside0.mk ((by rw [hg]; exact Nat.ne_of_gt (blk_lt (g := gb344) (o := .cells #[.int .i64 0, .slice none 0 0] 27 (0, 0)) (bk_ BK344.out)) : gb348 ≠ gb344)); replace BK344 := Aside0.mk (Zc (g := gb344) (o := .cells #[.int .i64 0, .slice none 0 0] 27 (0, 0)) (bk_ BK344.out) hb); have NB0_348 := Aside0.mk ((by rw [hg]; exact Nat.ne_of_lt (IsS93.lt (show IsS93 w0 _ g s0_0 t346 t347 from by repeat (first | (with_reducible first | exact HI0.out | apply IsS93.alloc | apply IsS93.drewN | apply IsS93.drew | apply IsS93.set_1 | apply IsS93.set_2 | refine IsS93.far ?_ NB0_344.out _) | exact HI0.out))) : g ≠ gb348)); have NB348_0 := Aside0.mk ((by rw [hg]; exact Nat.ne_of_gt (IsS93.lt (show IsS93 w0 _ g s0_0 t346 t347 from by repeat (first | (with_reducible first | exact HI0.out | apply IsS93.alloc | apply IsS93.drewN | apply IsS93.drew | apply IsS93.set_1 | apply IsS93.set_2 | refine IsS93.far ?_ NB0_344.out _) | exact HI0.out))) : gb348 ≠ g)); replace HI0 := Aside0.mk (IsS93.below (by repeat (first | (with_reducible first | exact HI0.out | apply IsS93.alloc | apply IsS93.drewN | apply IsS93.drew | apply IsS93.set_1 | apply IsS93.set_2 | refine IsS93.far ?_ NB0_344.out _) | exact HI0.out)) hb); clear hb hbox hg; have hnb7 := NB348_344.out; have hnc7 := NB344_348.out; have hnb8 := NB348_0.out; have hnc8 := NB0_348.out; have hcz9_0 : w6.cell? ⟨gb348, 0, none⟩ = some (.int .i64 0) := (Za BK348.out 0).trans rfl; have hcz9_1 : w6.cell? ⟨gb348, 1, none⟩ = some (.slice none 0 0) := (Za BK348.out 1).trans rfl; have hfz9_0 := Zb BK348.out 0; have hfz9_1 := Zb BK348.out 1) | ((with_reducible refine Zj (f := 84) rfl ?_); refine ZE (some 10) rfl rfl Try.func84 (by kernel_rfl) rfl #[.pointer (some ⟨g, 0, none⟩), .int .i64 8] rfl ar_ ?_; (with_reducible refine (spec_l1Below.calls g s0_0 t346 t347 8 t349 t350 t351 w0 _ ?side1 ?side2 A3.out).mono ?_); (case side1 => repeat (first | (with_reducible first | exact HI0.out | apply IsS93.alloc | apply IsS93.drewN | apply IsS93.drew | apply IsS93.set_1 | apply IsS93.set_2 | refine IsS93.far ?_ NB0_344.out _ | refine IsS93.far ?_ NB0_348.out _) | exact HI0.out)); (case side2 => repeat (first | (with_reducible first | exact HB.out | apply Zq | apply Zm | apply Zi | refine Zh ?_ (IsS93.ge HI0.out) | refine Zh ?_ GE344.out | refine Zh ?_ GE348.out) | exact HB.out)); rintro e w10 ⟨rfl, hi, hb, hk⟩; refine ⟨_, rfl, ?_⟩; replace BK344 := Aside0.mk (KeepBut.blk hk (g' := gb344) (o := .cells #[.int .i64 0, .slice none 0 0] 27 (0, 0)) (by (with_reducible repeat (first | refine Zg ?_ _ | refine Zd ?_ | refine Zf ?_ _)); refine ZK ?_ NB344_348.out _; (with_reducible repeat (first | refine Zg ?_ _ | refine Zd ?_ | refine Zf ?_ _)); refine ZK ?_ NB344_348.out _; (with_reducible repeat (first | refine Zg ?_ _ | refine Zd ?_ | refine Zf ?_ _)); exact BK344.out) NB344_0.out (by simp)); replace BK348 := Aside0.mk (KeepBut.blk hk (g' := gb348) (o := .cells #[.int .i64 (wrap64 (1 + t345)), .slice none 0 0] 27 (0, 0)) (by (with_reducible repeat (first | refine Zg ?_ _ | refine Zd ?_ | refine Zf ?_ _)); refine ZT (cs := #[.int .i64 (wrap64 (1 + t345)), .slice none 0 0]) ?_ 1 _ rfl; (with_reducible repeat (first | refine Zg ?_ _ | refine Zd ?_ | refine Zf ?_ _)); refine ZT (cs := #[.int .i64 0, .slice none 0 0]) ?_ 0 _ rfl; (with_reducible repeat (first | refine Zg ?_ _ | refine Zd ?_ | refine Zf ?_ _)); exact BK348.out) NB348_0.out (by simp)); replace HK := Aside0.mk (KeepBut.trans (by repeat (first | (with_reducible first | exact HK.out | apply ZF | apply ZL | apply ZQ | apply ZM | refine keep_far ?_ GW344.out _ | refine keep_far ?_ GW348.out _) | exact HK.out)) hk (.inl rfl)); replace HB := Aside0.mk (hb); replace HI0 := Aside0.mk (hi); (try clear hb); (try clear hb2); (try clear hk); (try clear hi)))
 go_loopg [4] k (fun kq v4 w' => ∃ (x4_1 : Int) (x1001_1 : Int) (x1002_1 : Int) (x349000_1 : Int) (x349001_1 : List (List Int)) (u349001 : Value), v4 = .int .i64 x4_1 ∧ Aside0 (spec_l8Small.l0 kq x4_1 s0_0 x1001_1 x1002_1 x349000_1 x349001_1 = some (r1, r2, r3, r4)) ∧ Aside0 (kq ≤ k) ∧ Aside0 (Kd.S (Kd.slice 3 (Kd.int .i64)) 31 w' w.heap.size (fun _ => True) u349001 x349001_1) ∧ Aside0 (w'.heap[gb344]? = some (.cells #[.int .i64 0, (.slice none 0 0)] 27 (0, 0))) ∧ Aside0 (w'.heap[gb348]? = some (.cells #[.int .i64 x349000_1, u349001] 27 (0, 0))) ∧ Aside0 (IsS93 w0 w' g s0_0 x1001_1 x1002_1) ∧ Aside0 (KeepBut w w' g none) ∧ Aside0 (Below w0.heap.size w0 w'))
 case atStart => exact ⟨(t349), (t350), (t351), (wrap64 (1 + t345)), (([] : List (List Int))), (.slice none 0 0), sm_, H', ⟨Nat.le_refl _⟩, ⟨by first | exact Kd.S_nil _ _ _ _ _ | exact Kd.N_nil _ _ _ _ _ | exact Kd.V_nil _ _ _ _ _ | exact Kd.Q_nil _ _ _ _ _ | exact Kd.R_nil _ _ _ _ _⟩, ⟨bk_ BK344.out⟩, ⟨bk_ BK348.out⟩, ⟨by repeat (first | (with_reducible first | exact HI0.out | apply IsS93.alloc | apply IsS93.drewN | apply IsS93.drew | apply IsS93.set_1 | apply IsS93.set_2 | refine IsS93.far ?_ NB0_344.out _ | refine IsS93.far ?_ NB0_348.out _) | exact HI0.out)⟩, ⟨by repeat (first | (with_reducible first | exact HK.out | apply ZF | apply ZL | apply ZQ | apply ZM | refine keep_far ?_ GW344.out _ | refine keep_far ?_ GW348.out _) | exact HK.out)⟩, ⟨by repeat (first | (with_reducible first | exact HB.out | apply Zq | apply Zm | apply Zi | refine Zh ?_ (IsS93.ge HI0.out) | refine Zh ?_ GE344.out | refine Zh ?_ GE348.out) | exact HB.out)⟩⟩
 case round =>
  clear H'
  try clear p2
  try clear p6
  try clear c7
  try clear c8
  try clear hcz9_0
  try clear hcz9_1
  try clear hfz9_0
  try clear hfz9_1
  obtain ⟨x4_1, x1001_1, x1002_1, x349000_1, x349001_1, u349001, rfl, HA, HK1, HO_349001, BK344, BK348, HI0, HK, HB⟩ := hrel
  cases gk with
  | zero => exact absurd HA.out (by simp [spec_l8Small.l0])
  | succ k1 =>
   have H := HA.out
   clear HA
   simp only [spec_l8Small.l0] at H
   by_cases c11 : x4_1 > 0
   ·rw [if_pos c11] at H
    have c11b0 : decide (0 < x4_1) = true := decide_eq_true c11
    clear c11
    replace H := Option.bind_eq_some_iff.mp H
    obtain ⟨⟨t352, t353, t354⟩, A120, H⟩ := H
    replace H : ((spec_l1Below.f s0_0 t353 t354 x349000_1).bind fun bt355 => ((spec_AddAttack.f k1 x349000_1 x349001_1 t352 bt355.1).bind fun bt358 => (spec_l8Small.l0 k1 (wrap64 (x4_1 - 1)) s0_0 bt355.2.1 bt355.2.2 bt358.1 bt358.2.1))) = some (r1, r2, r3, r4) := H
    have A12 := Aside0.mk A120
    clear A120
    replace H := Option.bind_eq_some_iff.mp H
    obtain ⟨⟨t355, t356, t357⟩, A130, H⟩ := H
    replace H : ((spec_AddAttack.f k1 x349000_1 x349001_1 t352 t355).bind fun bt358 => (spec_l8Small.l0 k1 (wrap64 (x4_1 - 1)) s0_0 t356 t357 bt358.1 bt358.2.1)) = some (r1, r2, r3, r4) := H
    have A13 := Aside0.mk A130
    clear A130
    replace H := Option.bind_eq_some_iff.mp H
    obtain ⟨⟨t358, t359, t362⟩, A140, H⟩ := H
    replace H : (spec_l8Small.l0 k1 (wrap64 (x4_1 - 1)) s0_0 t356 t357 t358 t359) = some (r1, r2, r3, r4) := H
    have A14 := Aside0.mk A140
    clear A140
    have H' := Aside0.mk H
    clear H
    try go_wp2
    replace HO_349001 := Aside0.mk (Zr HO_349001.out)
    replace BK344 := Aside0.mk (Zd BK344.out)
    replace BK348 := Aside0.mk (Zd BK348.out)
    replace HI0 := Aside0.mk (IsS93.drew HI0.out)
    replace HK := Aside0.mk (ZQ HK.out)
    replace HB := Aside0.mk (Zi HB.out)
    refine start_ (n := 14) (S := fun w' => w'.cell? ⟨gb348, 0, none⟩ = some (.int .i64 x349000_1) ∧ w'.cell? ⟨gb348, 1, none⟩ = some (u349001)) (ds := [13]) #[O,O,O,O,O,O,O,O,O,O,O,O,O,O] (by kernel_rfl) rfl rfl ⟨(Za BK348.out 0).trans rfl, (Za BK348.out 1).trans rfl⟩ (fun hHeld => ?_); refine with_tabW spec_l8Small.tab5 spec_l8Small.bits5 (fun HT_ HW_ => ?_)
    generalize wr.drew = w15 at HO_349001 BK344 BK348 HI0 HK HB hHeld ⊢
    refine pu_ 1 17 #[O,Y,O,O,O,O,O,O,O,O,O,O,O,O] ?_
    refine pu_ 2 18 #[O,Y,Y,O,O,O,O,O,O,O,O,O,O,O] ?_
    refine pu_ 5 21 #[O,Y,Y,O,O,Y,O,O,O,O,O,O,O,O] ?_
    refine pu_ 6 22 #[O,Y,Y,O,O,Y,Y,O,O,O,O,O,O,O] ?_
    refine tk2_ 0 16 #[Y,Y,Y,O,O,Y,Y,O,O,O,O,O,O,O] hHeld ?_
    refine tk2_ 3 19 #[Y,Y,Y,Y,O,Y,Y,O,O,O,O,O,O,O] hHeld ?_
    refine tk2_ 7 23 #[Y,Y,Y,Y,O,Y,Y,Y,O,O,O,O,O,O] hHeld ?_
    refine on_ 4 20 #[Y,Y,Y,Y,Y,Y,Y,Y,O,O,O,O,O,O] (fun K hK => ?_)
    refine goes_ Try.func84 (by kernel_rfl) rfl #[.pointer (some ⟨g, 0, none⟩), .int .i64 x349000_1] (by rfl) rfl rfl ar_ ?_
    with_reducible refine (spec_l1Below.calls g s0_0 x1001_1 x1002_1 x349000_1 t352 t353 t354 w0 _ ?side1 ?side2 A12.out).mono ?_
    (case side1 => repeat (first | (with_reducible first | exact HI0.out | apply IsS93.alloc | apply IsS93.drewN | apply IsS93.drew | apply IsS93.set_1 | apply IsS93.set_2 | refine IsS93.far ?_ NB0_344.out _ | refine IsS93.far ?_ NB0_348.out _) | exact HI0.out))
    (case side2 => repeat (first | (with_reducible first | exact HB.out | apply Zq | apply Zm | apply Zi | refine Zh ?_ (IsS93.ge HI0.out) | refine Zh ?_ GE344.out | refine Zh ?_ GE348.out) | exact HB.out))
    rintro e w16 ⟨rfl, hi, hb, hk⟩
    refine ⟨_, rfl, ?_⟩
    replace HO_349001 := Aside0.mk (Zs (Kd.S_keep (IsS93.apartS (show IsS93 w0 _ g s0_0 x1001_1 x1002_1 from by repeat (first | (with_reducible first | exact HI0.out | apply IsS93.alloc | apply IsS93.drewN | apply IsS93.drew | apply IsS93.set_1 | apply IsS93.set_2 | refine IsS93.far ?_ NB0_344.out _ | refine IsS93.far ?_ NB0_348.out _) | exact HI0.out)) (rS_ HO_349001.out) (by decide)) hk (fun _ h => h.2)) (fun _ h => h.1))
    replace BK344 := Aside0.mk (KeepBut.blk hk (g' := gb344) (o := .cells #[.int .i64 0, .slice none 0 0] 27 (0, 0)) (bk_ BK344.out) NB344_0.out (by simp))
    replace BK348 := Aside0.mk (KeepBut.blk hk (g' := gb348) (o := .cells #[.int .i64 x349000_1, u349001] 27 (0, 0)) (bk_ BK348.out) NB348_0.out (by simp))
    replace HK := Aside0.mk (KeepBut.trans (by repeat (first | (with_reducible first | exact HK.out | apply ZF | apply ZL | apply ZQ | apply ZM | refine keep_far ?_ GW344.out _ | refine keep_far ?_ GW348.out _) | exact HK.out)) hk (.inl rfl))
    replace HB := Aside0.mk (hb)
    replace HI0 := Aside0.mk (hi)
    (try clear hb)
    (try clear hb2)
    (try clear hk)
    (try clear hi)
    refine hK.out _ _ ⟨(Za BK348.out 0).trans rfl, (Za BK348.out 1).trans rfl⟩ (fun hHeld => ?_)
    clear hK K
    refine no_ 20 ?_
    refine on_ 8 24 #[Y,Y,Y,Y,Y,Y,Y,Y,Y,O,O,O,O,O] (fun K hK => ?_)
    refine goes_ Try.func84 (by kernel_rfl) rfl #[.pointer (some ⟨g, 0, none⟩), .int .i64 x349000_1] (by rfl) rfl rfl ar_ ?_
    with_reducible refine (spec_l1Below.calls g s0_0 t353 t354 x349000_1 t355 t356 t357 w0 _ ?side1 ?side2 A13.out).mono ?_
    (case side1 => repeat (first | (with_reducible first | exact HI0.out | apply IsS93.alloc | apply IsS93.drewN | apply IsS93.drew | apply IsS93.set_1 | apply IsS93.set_2 | refine IsS93.far ?_ NB0_344.out _ | refine IsS93.far ?_ NB0_348.out _) | exact HI0.out))
    (case side2 => repeat (first | (with_reducible first | exact HB.out | apply Zq | apply Zm | apply Zi | refine Zh ?_ (IsS93.ge HI0.out) | refine Zh ?_ GE344.out | refine Zh ?_ GE348.out) | exact HB.out))
    rintro e w17 ⟨rfl, hi, hb, hk⟩
    refine ⟨_, rfl, ?_⟩
    replace HO_349001 := Aside0.mk (Zs (Kd.S_keep (IsS93.apartS (show IsS93 w0 _ g s0_0 t353 t354 from by repeat (first | (with_reducible first | exact HI0.out | apply IsS93.alloc | apply IsS93.drewN | apply IsS93.drew | apply IsS93.set_1 | apply IsS93.set_2 | refine IsS93.far ?_ NB0_344.out _ | refine IsS93.far ?_ NB0_348.out _) | exact HI0.out)) (rS_ HO_349001.out) (by decide)) hk (fun _ h => h.2)) (fun _ h => h.1))
    replace BK344 := Aside0.mk (KeepBut.blk hk (g' := gb344) (o := .cells #[.int .i64 0, .slice none 0 0] 27 (0, 0)) (bk_ BK344.out) NB344_0.out (by simp))
    replace BK348 := Aside0.mk (KeepBut.blk hk (g' := gb348) (o := .cells #[.int .i64 x349000_1, u349001] 27 (0, 0)) (bk_ BK348.out) NB348_0.out (by simp))
    replace HK := Aside0.mk (KeepBut.trans (by repeat (first | (with_reducible first | exact HK.out | apply ZF | apply ZL | apply ZQ | apply ZM | refine keep_far ?_ GW344.out _ | refine keep_far ?_ GW348.out _) | exact HK.out)) hk (.inl rfl))
    replace HB := Aside0.mk (hb)
    replace HI0 := Aside0.mk (hi)
    (try clear hb)
    (try clear hb2)
    (try clear hk)
    (try clear hi)
    obtain ⟨Ao18, co18, eo18⟩ := Kd.S_slice HO_349001.out
    (first | subst eo18 | (injection eo18 with f1_ f2_ f3_; have f4_ := f1_.symm; have f5_ := f3_.symm; clear f1_ f2_ f3_; subst f4_; subst f5_))
    refine hK.out _ _ ⟨(Za BK348.out 0).trans rfl, (Za BK348.out 1).trans rfl⟩ (fun hHeld => ?_)
    clear hK K
    refine no_ 24 ?_
    refine on_ 9 25 #[Y,Y,Y,Y,Y,Y,Y,Y,Y,Y,O,O,O,O] (fun K hK => ?_)
    refine goes_ Try.func102 (by kernel_rfl) rfl #[.agg #[.int .i64 x349000_1, .slice Ao18 x349001_1.length co18], .int .i64 t352, .int .i64 t355] (by rfl) rfl rfl ar_ ?_
    with_reducible refine (spec_AddAttack.calls k1 x349000_1 _ _ x349001_1 t352 t355 t358 t359 t362 _ ?side1 ?side2 A14.out).mono ?_
    (case side1 => repeat (first | exact (Zu HO_349001.out).2.2 | (with_reducible refine ZB ?_ _) | (with_reducible refine ZA ?_ _) | (with_reducible refine ZG ?_)))
    (case side2 => exact (Zu HO_349001.out).2.1)
    rintro e w19 ⟨v360, rfl, ho0, hb⟩
    refine ⟨_, rfl, ?_⟩
    have HO361 := Aside0.mk (Kd.S_lower (Kd.S_new' ho0 (Kd.S_lt (rS_ HO_349001.out))) (keep_size (w := w) (g := g) (row := none) (by repeat (first | (with_reducible first | exact HK.out | apply ZF | apply ZL | apply ZQ | apply ZM | refine keep_far ?_ GW344.out _ | refine keep_far ?_ GW348.out _) | exact HK.out))))
    replace HO_349001 := Aside0.mk (Kd.S_elder' (rS_ HO_349001.out) (Kd.S_base ho0) hb)
    replace BK344 := Aside0.mk (Zc (g := gb344) (o := .cells #[.int .i64 0, .slice none 0 0] 27 (0, 0)) (bk_ BK344.out) hb)
    replace BK348 := Aside0.mk (Zc (g := gb348) (o := .cells #[.int .i64 x349000_1, .slice Ao18 x349001_1.length co18] 27 (0, 0)) (bk_ BK348.out) hb)
    replace HK := Aside0.mk (KeepBut.trans (by repeat (first | (with_reducible first | exact HK.out | apply ZF | apply ZL | apply ZQ | apply ZM | refine keep_far ?_ GW344.out _ | refine keep_far ?_ GW348.out _) | exact HK.out)) (KeepBut.of_below hb g none) (.inl rfl))
    replace HB := Aside0.mk (Ze (by repeat (first | (with_reducible first | exact HB.out | apply Zq | apply Zm | apply Zi | refine Zh ?_ (IsS93.ge HI0.out) | refine Zh ?_ GE344.out | refine Zh ?_ GE348.out) | exact HB.out)) hb)
    replace HI0 := Aside0.mk (IsS93.below (by repeat (first | (with_reducible first | exact HI0.out | apply IsS93.alloc | apply IsS93.drewN | apply IsS93.drew | apply IsS93.set_1 | apply IsS93.set_2 | refine IsS93.far ?_ NB0_344.out _ | refine IsS93.far ?_ NB0_348.out _) | exact HI0.out)) hb)
    (try clear hb)
    (try clear hb2)
    (try clear hk)
    (try clear hi)
    (try clear ho0)
    obtain ⟨Ao21, co21, eo21⟩ := Kd.S_slice HO361.out
    (first | subst eo21 | (injection eo21 with f1_ f2_ f3_; have f4_ := f1_.symm; have f5_ := f3_.symm; clear f1_ f2_ f3_; subst f4_; subst f5_))
    refine hK.out _ _ ⟨(Za BK348.out 0).trans rfl, (Za BK348.out 1).trans rfl⟩ (fun hHeld => ?_)
    clear hK K
    refine no_ 25 ?_
    refine pu_ 10 15 #[Y,Y,Y,Y,Y,Y,Y,Y,Y,Y,Y,O,O,O] ?_
    refine pu_ 11 26 #[Y,Y,Y,Y,Y,Y,Y,Y,Y,Y,Y,Y,O,O] ?_
    refine pu_ 12 27 #[Y,Y,Y,Y,Y,Y,Y,Y,Y,Y,Y,Y,Y,O] ?_
    refine last_ (i := 13) (N := none) #[Y,Y,Y,Y,Y,Y,Y,Y,Y,Y,Y,Y,Y,Y] rfl rfl (one_of HT_.out (by kernel_rfl)) (by decide) (fun K hK => ?_)
    have hs20 : w19.cell? ⟨gb348, 0, none⟩ = some (.int .i64 x349000_1) := (Za BK348.out 0).trans rfl
    have hfs20 := Zb BK348.out 0
    have hns20_0 := NB344_348.out
    have hms20_0 := NB348_344.out
    have hs22 : w19.cell? ⟨gb348, 1, none⟩ = some (.slice Ao18 x349001_1.length co18) := (Za BK348.out 1).trans rfl
    have hfs22 := Zb BK348.out 1
    have hns22_0 := NB344_348.out
    have hms22_0 := NB348_344.out
    refine skip_ (w1 := ?_) (by rfl) rfl ?_ ?_
    rotate_left
    ·go_simp
     rfl
    refine hK.out _ _ ?_
    clear hK K
    refine done_ (done_of HT_.out (by kernel_rfl)) ?_
    try go_wp2
    go_roundg k1
    case measure => have := HK1.out; omega
    case rel => exact ⟨(wrap64 (x4_1 - 1)), (t356), (t357), (t358), (t359), (.slice Ao21 t359.length co21), sm_, H', ⟨by have := HK1.out; omega⟩, ⟨by (with_reducible repeat (first | apply Zy | apply Zx | apply Zr)); exact Zs (Zw (p := ⟨gb348, 1, none⟩) (Zw (p := ⟨gb348, 0, none⟩) (ZC HO361.out BK348.out (by decide)) (fun _ hk => hk.2) (.int .i64 t358)) (fun _ hk => hk.2) (.slice Ao21 t359.length co21)) (fun _ hk => trivial)⟩, ⟨by (with_reducible repeat (first | refine Zg ?_ _ | refine Zd ?_ | refine Zf ?_ _)); refine ZK ?_ NB344_348.out _; (with_reducible repeat (first | refine Zg ?_ _ | refine Zd ?_ | refine Zf ?_ _)); refine ZK ?_ NB344_348.out _; (with_reducible repeat (first | refine Zg ?_ _ | refine Zd ?_ | refine Zf ?_ _)); exact BK344.out⟩, ⟨by (with_reducible repeat (first | refine Zg ?_ _ | refine Zd ?_ | refine Zf ?_ _)); refine ZT (cs := #[.int .i64 t358, .slice Ao18 x349001_1.length co18]) ?_ 1 _ rfl; (with_reducible repeat (first | refine Zg ?_ _ | refine Zd ?_ | refine Zf ?_ _)); refine ZT (cs := #[.int .i64 x349000_1, .slice Ao18 x349001_1.length co18]) ?_ 0 _ rfl; (with_reducible repeat (first | refine Zg ?_ _ | refine Zd ?_ | refine Zf ?_ _)); exact BK348.out⟩, ⟨by repeat (first | (with_reducible first | exact HI0.out | apply IsS93.alloc | apply IsS93.drewN | apply IsS93.drew | apply IsS93.set_1 | apply IsS93.set_2 | refine IsS93.far ?_ NB0_344.out _ | refine IsS93.far ?_ NB0_348.out _) | exact HI0.out)⟩, ⟨by repeat (first | (with_reducible first | exact HK.out | apply ZF | apply ZL | apply ZQ | apply ZM | refine keep_far ?_ GW344.out _ | refine keep_far ?_ GW348.out _) | exact HK.out)⟩, ⟨by repeat (first | (with_reducible first | exact HB.out | apply Zq | apply Zm | apply Zi | refine Zh ?_ (IsS93.ge HI0.out) | refine Zh ?_ GE344.out | refine Zh ?_ GE348.out) | exact HB.out)⟩⟩
   ·rw [if_neg c11] at H
    have c11b0 : decide (0 < x4_1) = false := decide_eq_false c11
    clear c11
    replace H := Option.bind_eq_some_iff.mp H
    obtain ⟨⟨t363, t364, t365⟩, A230, H⟩ := H
    replace H : (if t363 = true then (some ((-1), x349001_1, t364, t365)) else (some (x349000_1, x349001_1, t364, t365))) = some (r1, r2, r3, r4) := H
    have A23 := Aside0.mk A230
    clear A230
    by_cases c24 : t363 = true
    ·subst c24
     have H1 : (some ((-1), x349001_1, t364, t365)) = some (r1, r2, r3, r4) := by rw [if_pos rfl] at H; exact H
     clear H
     have H := H1
     clear H1
     simp only [Option.some.injEq, Prod.mk.injEq] at H
     obtain ⟨rfl, rfl, rfl, rfl⟩ := H
     go_wp2_with (first | ((with_reducible refine Zj (f := 97) rfl ?_); refine ZE (some 29) rfl rfl Try.func97 (by kernel_rfl) rfl #[.pointer (some ⟨g, 0, none⟩), .int .i64 12] rfl ar_ ?_; (with_reducible refine (spec_l1Once.calls g s0_0 x1001_1 x1002_1 12 true t364 t365 w0 _ ?side1 ?side2 A23.out).mono ?_); (case side1 => repeat (first | (with_reducible first | exact HI0.out | apply IsS93.alloc | apply IsS93.drewN | apply IsS93.drew | apply IsS93.set_1 | apply IsS93.set_2 | refine IsS93.far ?_ NB0_344.out _ | refine IsS93.far ?_ NB0_348.out _) | exact HI0.out)); (case side2 => repeat (first | (with_reducible first | exact HB.out | apply Zq | apply Zm | apply Zi | refine Zh ?_ (IsS93.ge HI0.out) | refine Zh ?_ GE344.out | refine Zh ?_ GE348.out) | exact HB.out)); rintro e w25 ⟨rfl, hi, hb, hk⟩; refine ⟨_, rfl, ?_⟩; replace HO_349001 := Aside0.mk (Zs (Kd.S_keep (IsS93.apartS (show IsS93 w0 _ g s0_0 x1001_1 x1002_1 from by repeat (first | (with_reducible first | exact HI0.out | apply IsS93.alloc | apply IsS93.drewN | apply IsS93.drew | apply IsS93.set_1 | apply IsS93.set_2 | refine IsS93.far ?_ NB0_344.out _ | refine IsS93.far ?_ NB0_348.out _) | exact HI0.out)) (rS_ HO_349001.out) (by decide)) hk (fun _ h => h.2)) (fun _ h => h.1)); replace BK344 := Aside0.mk (KeepBut.blk hk (g' := gb344) (o := .cells #[.int .i64 0, .slice none 0 0] 27 (0, 0)) (bk_ BK344.out) NB344_0.out (by simp)); replace BK348 := Aside0.mk (KeepBut.blk hk (g' := gb348) (o := .cells #[.int .i64 x349000_1, u349001] 27 (0, 0)) (bk_ BK348.out) NB348_0.out (by simp)); replace HK := Aside0.mk (KeepBut.trans (by repeat (first | (with_reducible first | exact HK.out | apply ZF | apply ZL | apply ZQ | apply ZM | refine keep_far ?_ GW344.out _ | refine keep_far ?_ GW348.out _) | exact HK.out)) hk (.inl rfl)); replace HB := Aside0.mk (hb); replace HI0 := Aside0.mk (hi); (try clear hb); (try clear hb2); (try clear hk); (try clear hi); have hnb26 := NB348_344.out; have hnc26 := NB344_348.out; have hnb27 := NB348_0.out; have hnc27 := NB0_348.out; have hcz28_0 : w25.cell? ⟨gb348, 0, none⟩ = some (.int .i64 x349000_1) := (Za BK348.out 0).trans rfl; have hcz28_1 : w25.cell? ⟨gb348, 1, none⟩ = some (u349001) := (Za BK348.out 1).trans rfl; have hfz28_0 := Zb BK348.out 0; have hfz28_1 := Zb BK348.out 1; have hnb29 := NB344_0.out; have hnc29 := NB0_344.out; have hcz30_0 : w25.cell? ⟨gb344, 0, none⟩ = some (.int .i64 0) := (Za BK344.out 0).trans rfl; have hcz30_1 : w25.cell? ⟨gb344, 1, none⟩ = some (.slice none 0 0) := (Za BK344.out 1).trans rfl; have hfz30_0 := Zb BK344.out 0; have hfz30_1 := Zb BK344.out 1; obtain ⟨Ao31, co31, eo31⟩ := Kd.S_slice HO_349001.out; subst eo31))
     refine bodyPost_ret (results_cell_row rfl _ _ gb344 27 #[.int .i64 (-1), .slice Ao31 x349001_1.length co31] (0, 0) _ rfl (by (with_reducible repeat (first | refine Zg ?_ _ | refine Zd ?_ | refine Zf ?_ _)); refine ZT (cs := #[.int .i64 (-1), .slice none 0 0]) ?_ 1 _ rfl; (with_reducible repeat (first | refine Zg ?_ _ | refine Zd ?_ | refine Zf ?_ _)); refine ZT (cs := #[.int .i64 0, .slice none 0 0]) ?_ 0 _ rfl; (with_reducible repeat (first | refine Zg ?_ _ | refine Zd ?_ | refine Zf ?_ _)); refine ZK ?_ NB344_348.out _; (with_reducible repeat (first | refine Zg ?_ _ | refine Zd ?_ | refine Zf ?_ _)); exact BK344.out) Try.underlying27 rfl (by kernel_rfl)) rfl ?_
     exact ⟨_, er_, by (with_reducible repeat (first | apply Zy | apply Zx | apply Zr)); exact Zs (Zw (p := ⟨gb344, 1, none⟩) (Zw (p := ⟨gb344, 0, none⟩) (Zw (p := ⟨gb348, 0, none⟩) (ZC (ZC HO_349001.out BK348.out (by decide)) BK344.out (by decide)) (fun _ hk => hk.1.2) (.int .i64 (-1))) (fun _ hk => hk.2) (.int .i64 (-1))) (fun _ hk => hk.2) (.slice Ao31 x349001_1.length co31)) (fun _ hk => trivial), by repeat (first | (with_reducible first | exact HI0.out | apply IsS93.alloc | apply IsS93.drewN | apply IsS93.drew | apply IsS93.set_1 | apply IsS93.set_2 | refine IsS93.far ?_ NB0_344.out _ | refine IsS93.far ?_ NB0_348.out _) | exact HI0.out), by repeat (first | (with_reducible first | exact HB.out | apply Zq | apply Zm | apply Zi | refine Zh ?_ (IsS93.ge HI0.out) | refine Zh ?_ GE344.out | refine Zh ?_ GE348.out) | exact HB.out), by repeat (first | (with_reducible first | exact HK.out | apply ZF | apply ZL | apply ZQ | apply ZM | refine keep_far ?_ GW344.out _ | refine keep_far ?_ GW348.out _) | exact HK.out)⟩
    ·replace c24 := Bool.eq_false_iff.mpr c24
     subst c24
     have H1 : (some (x349000_1, x349001_1, t364, t365)) = some (r1, r2, r3, r4) := by rw [if_neg (show ¬ (false = true) by decide)] at H; exact H
     clear H
     have H := H1
     clear H1
     simp only [Option.some.injEq, Prod.mk.injEq] at H
     obtain ⟨rfl, rfl, rfl, rfl⟩ := H
     go_wp2_with (first | ((with_reducible refine Zj (f := 97) rfl ?_); refine ZE (some 29) rfl rfl Try.func97 (by kernel_rfl) rfl #[.pointer (some ⟨g, 0, none⟩), .int .i64 12] rfl ar_ ?_; (with_reducible refine (spec_l1Once.calls g s0_0 x1001_1 x1002_1 12 false t364 t365 w0 _ ?side1 ?side2 A23.out).mono ?_); (case side1 => repeat (first | (with_reducible first | exact HI0.out | apply IsS93.alloc | apply IsS93.drewN | apply IsS93.drew | apply IsS93.set_1 | apply IsS93.set_2 | refine IsS93.far ?_ NB0_344.out _ | refine IsS93.far ?_ NB0_348.out _) | exact HI0.out)); (case side2 => repeat (first | (with_reducible first | exact HB.out | apply Zq | apply Zm | apply Zi | refine Zh ?_ (IsS93.ge HI0.out) | refine Zh ?_ GE344.out | refine Zh ?_ GE348.out) | exact HB.out)); rintro e w32 ⟨rfl, hi, hb, hk⟩; refine ⟨_, rfl, ?_⟩; replace HO_349001 := Aside0.mk (Zs (Kd.S_keep (IsS93.apartS (show IsS93 w0 _ g s0_0 x1001_1 x1002_1 from by repeat (first | (with_reducible first | exact HI0.out | apply IsS93.alloc | apply IsS93.drewN | apply IsS93.drew | apply IsS93.set_1 | apply IsS93.set_2 | refine IsS93.far ?_ NB0_344.out _ | refine IsS93.far ?_ NB0_348.out _) | exact HI0.out)) (rS_ HO_349001.out) (by decide)) hk (fun _ h => h.2)) (fun _ h => h.1)); replace BK344 := Aside0.mk (KeepBut.blk hk (g' := gb344) (o := .cells #[.int .i64 0, .slice none 0 0] 27 (0, 0)) (bk_ BK344.out) NB344_0.out (by simp)); replace BK348 := Aside0.mk (KeepBut.blk hk (g' := gb348) (o := .cells #[.int .i64 x349000_1, u349001] 27 (0, 0)) (bk_ BK348.out) NB348_0.out (by simp)); replace HK := Aside0.mk (KeepBut.trans (by repeat (first | (with_reducible first | exact HK.out | apply ZF | apply ZL | apply ZQ | apply ZM | refine keep_far ?_ GW344.out _ | refine keep_far ?_ GW348.out _) | exact HK.out)) hk (.inl rfl)); replace HB := Aside0.mk (hb); replace HI0 := Aside0.mk (hi); (try clear hb); (try clear hb2); (try clear hk); (try clear hi); have hnb33 := NB348_344.out; have hnc33 := NB344_348.out; have hnb34 := NB348_0.out; have hnc34 := NB0_348.out; have hcz35_0 : w32.cell? ⟨gb348, 0, none⟩ = some (.int .i64 x349000_1) := (Za BK348.out 0).trans rfl; have hcz35_1 : w32.cell? ⟨gb348, 1, none⟩ = some (u349001) := (Za BK348.out 1).trans rfl; have hfz35_0 := Zb BK348.out 0; have hfz35_1 := Zb BK348.out 1; have hnb36 := NB344_0.out; have hnc36 := NB0_344.out; have hcz37_0 : w32.cell? ⟨gb344, 0, none⟩ = some (.int .i64 0) := (Za BK344.out 0).trans rfl; have hcz37_1 : w32.cell? ⟨gb344, 1, none⟩ = some (.slice none 0 0) := (Za BK344.out 1).trans rfl; have hfz37_0 := Zb BK344.out 0; have hfz37_1 := Zb BK344.out 1; obtain ⟨Ao38, co38, eo38⟩ := Kd.S_slice HO_349001.out; subst eo38))
     refine bodyPost_ret (results_cell_row rfl _ _ gb344 27 #[.int .i64 x349000_1, .slice Ao38 x349001_1.length co38] (0, 0) _ rfl (by (with_reducible repeat (first | refine Zg ?_ _ | refine Zd ?_ | refine Zf ?_ _)); refine ZT (cs := #[.int .i64 x349000_1, .slice none 0 0]) ?_ 1 _ rfl; (with_reducible repeat (first | refine Zg ?_ _ | refine Zd ?_ | refine Zf ?_ _)); refine ZT (cs := #[.int .i64 0, .slice none 0 0]) ?_ 0 _ rfl; (with_reducible repeat (first | refine Zg ?_ _ | refine Zd ?_ | refine Zf ?_ _)); exact BK344.out) Try.underlying27 rfl (by kernel_rfl)) rfl ?_
     exact ⟨_, er_, by (with_reducible repeat (first | apply Zy | apply Zx | apply Zr)); exact Zs (Zw (p := ⟨gb344, 1, none⟩) (Zw (p := ⟨gb344, 0, none⟩) (ZC HO_349001.out BK344.out (by decide)) (fun _ hk => hk.2) (.int .i64 x349000_1)) (fun _ hk => hk.2) (.slice Ao38 x349001_1.length co38)) (fun _ hk => trivial), by repeat (first | (with_reducible first | exact HI0.out | apply IsS93.alloc | apply IsS93.drewN | apply IsS93.drew | apply IsS93.set_1 | apply IsS93.set_2 | refine IsS93.far ?_ NB0_344.out _ | refine IsS93.far ?_ NB0_348.out _) | exact HI0.out), by repeat (first | (with_reducible first | exact HB.out | apply Zq | apply Zm | apply Zi | refine Zh ?_ (IsS93.ge HI0.out) | refine Zh ?_ GE344.out | refine Zh ?_ GE348.out) | exact HB.out), by repeat (first | (with_reducible first | exact HK.out | apply ZF | apply ZL | apply ZQ | apply ZM | refine keep_far ?_ GW344.out _ | refine keep_far ?_ GW348.out _) | exact HK.out)⟩

/-! ### spec_DrawCanWin: function 33 -/
def spec_DrawCanWin.f (k : Nat) (l0 : List Int) : Option (Int × (List (List Int)) × Int) := (spec_l1New.f k l0).bind fun bt367 => ((spec_l8Small.f k bt367.1 bt367.2.1 bt367.2.2).bind fun bt371 => ((spec_l1Below.f bt367.1 bt371.2.2.1 bt371.2.2.2 6).bind fun bt378 => (some (bt371.1, bt371.2.1, bt378.1))))
theorem spec_DrawCanWin.mono : ∀ a0 k, LeO (spec_DrawCanWin.f k a0) (spec_DrawCanWin.f (k + 1) a0) := by
 intro a0 k
 unfold spec_DrawCanWin.f
 repeat' first
   | (with_reducible exact spec_l1New.mono _ _)
   | (with_reducible exact spec_l8Small.mono _ _ _ _)
   | (with_reducible exact ZJ _)
   | (with_reducible exact Zn _)
   | (with_reducible refine Zt ?_ ?_)
   | (with_reducible refine Zo ?_ (fun _ => ?_))
   | exact spec_l1New.mono _ _
   | exact spec_l8Small.mono _ _ _ _
   | exact Zn _
   | refine Zt ?_ ?_
   | refine Zo ?_ (fun _ => ?_)
set_option maxHeartbeats 8000000 in
set_option maxRecDepth 100000 in
theorem spec_DrawCanWin.calls (k : Nat) (A0 : Option Addr) (c0 : Nat) (l0 : List Int) (r1 : Int) (r2 : List (List Int)) (r3 : Int) (w : World) (hr0 : Kd.C (Kd.int .u8) w A0 l0.length l0) (hc0 : l0.length ≤ c0) (h : spec_DrawCanWin.f k l0 = some (r1, r2, r3)) :
  Calls Try.prog 33 #[.slice A0 l0.length c0] w fun e w' => ∃ v1_ : Value, e = .returned (.tuple #[.agg #[.int .i64 r1, v1_], .int .i64 r3]) ∧ Kd.S (Kd.slice 3 (Kd.int .i64)) 31 w' w.heap.size (fun _ => True) v1_ r2 ∧ Below w.heap.size w w' := by
 have hu27 := Try.underlying27
 have HR0 := Aside0.mk hr0
 have HC0 := Aside0.mk hc0
 clear hr0 hc0
 have HB := Aside0.mk (Below.refl w.heap.size w)
 have H : ((spec_l1New.f k l0).bind fun bt367 => ((spec_l8Small.f k bt367.1 bt367.2.1 bt367.2.2).bind fun bt371 => ((spec_l1Below.f bt367.1 bt371.2.2.1 bt371.2.2.2 6).bind fun bt378 => (some (bt371.1, bt371.2.1, bt378.1))))) = some (r1, r2, r3) := h
 clear h
 replace H := Option.bind_eq_some_iff.mp H
 obtain ⟨⟨t367, t368, t369⟩, A20, H⟩ := H
 replace H : ((spec_l8Small.f k t367 t368 t369).bind fun bt371 => ((spec_l1Below.f t367 bt371.2.2.1 bt371.2.2.2 6).bind fun bt378 => (some (bt371.1, bt371.2.1, bt378.1)))) = some (r1, r2, r3) := H
 have A2 := Aside0.mk A20
 clear A20
 replace H := Option.bind_eq_some_iff.mp H
 obtain ⟨⟨t371, t372, t375, t376⟩, A30, H⟩ := H
 replace H : ((spec_l1Below.f t367 t375 t376 6).bind fun bt378 => (some (t371, t372, bt378.1))) = some (r1, r2, r3) := H
 have A3 := Aside0.mk A30
 clear A30
 replace H := Option.bind_eq_some_iff.mp H
 obtain ⟨⟨t378, t379, t380⟩, A40, H⟩ := H
 replace H : (some (t371, t372, t378)) = some (r1, r2, r3) := H
 have A4 := Aside0.mk A40
 clear A40
 simp only [Option.some.injEq, Prod.mk.injEq] at H
 obtain ⟨rfl, rfl, rfl⟩ := H
 go_enter Try.func33, Try.ntmps33
 try go_wp2_with (first | ((with_reducible refine ZD (N := 2) rfl ?_); refine ZH ?hg (N := 2) ?hd (cs := #[.int .i64 0, .slice none 0 0]) (t := 27) ?hr ?_; (case hd => rfl); (case hg => rfl); (case hr => first | (go_simp; done) | (go_simp; rfl)); intro gb366 hg w5 hbox hb; have BK366 := Aside0.mk (hbox); have GW366 := Aside0.mk ((hz_ hg : w.heap.size ≤ gb366)); have GE366 := Aside0.mk ((hz_ hg : w.heap.size ≤ gb366)); replace HB := Aside0.mk (Ze hB_ hb); clear hb hbox hg) | ((with_reducible refine Zj (f := 82) rfl ?_); refine ZE (some 7) rfl rfl Try.func82 (by kernel_rfl) rfl #[.slice A0 l0.length c0] rfl ar_ ?_; (with_reducible refine (spec_l1New.calls k _ _ l0 t367 t368 t369 w _ ?side1 ?side2 ?side3 A2.out).mono ?_); (case side1 => repeat (first | (with_reducible first | exact HB.out | apply Zq | apply Zm | apply Zi | refine Zh ?_ GE366.out) | exact HB.out)); (case side2 => exact HR0.out); (case side3 => exact HC0.out); rintro e w6 ⟨g370, rfl, hi, hb, hb2⟩; refine ⟨_, rfl, ?_⟩; replace HB := Aside0.mk (hb); have HI370 := Aside0.mk (hi); have NB370_366 := Aside0.mk (IsS93.ne_blk hi (Zc (g := gb366) (o := .cells #[.int .i64 0, .slice none 0 0] 27 (0, 0)) (bk_ BK366.out) hb2) (by decide)); have NB366_370 := Aside0.mk (Ne.symm (IsS93.ne_blk hi (Zc (g := gb366) (o := .cells #[.int .i64 0, .slice none 0 0] 27 (0, 0)) (bk_ BK366.out) hb2) (by decide))); replace BK366 := Aside0.mk (Zc (g := gb366) (o := .cells #[.int .i64 0, .slice none 0 0] 27 (0, 0)) (bk_ BK366.out) hb2); (try clear hb); (try clear hb2); (try clear hk); (try clear hi)) | ((with_reducible refine Zj (f := 83) rfl ?_); refine ZE (some 9) rfl rfl Try.func83 (by kernel_rfl) rfl #[.pointer (some ⟨g370, 0, none⟩)] rfl ar_ ?_; (with_reducible refine (spec_l8Small.calls k g370 t367 t368 t369 t371 t372 t375 t376 w _ ?side1 ?side2 A3.out).mono ?_); (case side1 => repeat (first | (with_reducible first | exact HI370.out | apply IsS93.alloc | apply IsS93.drewN | apply IsS93.drew | apply IsS93.set_1 | apply IsS93.set_2 | refine IsS93.far ?_ NB370_366.out _) | exact HI370.out)); (case side2 => repeat (first | (with_reducible first | exact HB.out | apply Zq | apply Zm | apply Zi | refine Zh ?_ (IsS93.ge HI370.out) | refine Zh ?_ GE366.out) | exact HB.out)); rintro e w7 ⟨v373, rfl, ho0, hi, hb, hk⟩; refine ⟨_, rfl, ?_⟩; replace BK366 := Aside0.mk (KeepBut.blk hk (g' := gb366) (o := .cells #[.int .i64 0, .slice none 0 0] 27 (0, 0)) (bk_ BK366.out) NB366_370.out (by simp)); have HO374 := Aside0.mk (Kd.S_lower ho0 (Zl (by repeat (first | (with_reducible first | exact HB.out | apply Zq | apply Zm | apply Zi | refine Zh ?_ (IsS93.ge HI370.out) | refine Zh ?_ GE366.out) | exact HB.out)))); replace HB := Aside0.mk (hb); replace HI370 := Aside0.mk (hi); (try clear hb); (try clear hb2); (try clear hk); (try clear hi); (try clear ho0)) | ((with_reducible refine ZD (N := 5) rfl ?_); refine ZH ?hg (N := 5) ?hd (cs := #[.int .i64 0, .slice none 0 0]) (t := 27) ?hr ?_; (case hd => rfl); (case hg => rfl); (case hr => first | (go_simp; done) | (go_simp; rfl)); intro gb377 hg w8 hbox hb; replace HO374 := Aside0.mk (Zk (rS_ HO374.out) hb); have BK377 := Aside0.mk (hbox); have GW377 := Aside0.mk ((by rw [hg]; exact (Zl (by repeat (first | (with_reducible first | exact HB.out | apply Zq | apply Zm | apply Zi | refine Zh ?_ (IsS93.ge HI370.out) | refine Zh ?_ GE366.out) | exact HB.out))) : w.heap.size ≤ gb377)); have GE377 := Aside0.mk ((by rw [hg]; exact (Zl (by repeat (first | (with_reducible first | exact HB.out | apply Zq | apply Zm | apply Zi | refine Zh ?_ (IsS93.ge HI370.out) | refine Zh ?_ GE366.out) | exact HB.out))) : w.heap.size ≤ gb377)); replace HB := Aside0.mk (Ze (by repeat (first | (with_reducible first | exact HB.out | apply Zq | apply Zm | apply Zi | refine Zh ?_ (IsS93.ge HI370.out) | refine Zh ?_ GE366.out) | exact HB.out)) hb); have NB366_377 := Aside0.mk ((by rw [hg]; exact Nat.ne_of_lt (blk_lt (g := gb366) (o := .cells #[.int .i64 0, .slice none 0 0] 27 (0, 0)) (bk_ BK366.out)) : gb366 ≠ gb377)); have NB377_366 := Aside0.mk ((by rw [hg]; exact Nat.ne_of_gt (blk_lt (g := gb366) (o := .cells #[.int .i64 0, .slice none 0 0] 27 (0, 0)) (bk_ BK366.out)) : gb377 ≠ gb366)); replace BK366 := Aside0.mk (Zc (g := gb366) (o := .cells #[.int .i64 0, .slice none 0 0] 27 (0, 0)) (bk_ BK366.out) hb); have NB370_377 := Aside0.mk ((by rw [hg]; exact Nat.ne_of_lt (IsS93.lt (show IsS93 w _ g370 t367 t375 t376 from by repeat (first | (with_reducible first | exact HI370.out | apply IsS93.alloc | apply IsS93.drewN | apply IsS93.drew | apply IsS93.set_1 | apply IsS93.set_2 | refine IsS93.far ?_ NB370_366.out _) | exact HI370.out))) : g370 ≠ gb377)); have NB377_370 := Aside0.mk ((by rw [hg]; exact Nat.ne_of_gt (IsS93.lt (show IsS93 w _ g370 t367 t375 t376 from by repeat (first | (with_reducible first | exact HI370.out | apply IsS93.alloc | apply IsS93.drewN | apply IsS93.drew | apply IsS93.set_1 | apply IsS93.set_2 | refine IsS93.far ?_ NB370_366.out _) | exact HI370.out))) : gb377 ≠ g370)); replace HI370 := Aside0.mk (IsS93.below (by repeat (first | (with_reducible first | exact HI370.out | apply IsS93.alloc | apply IsS93.drewN | apply IsS93.drew | apply IsS93.set_1 | apply IsS93.set_2 | refine IsS93.far ?_ NB370_366.out _) | exact HI370.out)) hb); clear hb hbox hg; have hnb9 := NB377_366.out; have hnc9 := NB366_377.out; have hnb10 := NB377_370.out; have hnc10 := NB370_377.out; have hcz11_0 : w8.cell? ⟨gb377, 0, none⟩ = some (.int .i64 0) := (Za BK377.out 0).trans rfl; have hcz11_1 : w8.cell? ⟨gb377, 1, none⟩ = some (.slice none 0 0) := (Za BK377.out 1).trans rfl; have hfz11_0 := Zb BK377.out 0; have hfz11_1 := Zb BK377.out 1; obtain ⟨Ao12, co12, eo12⟩ := Kd.S_slice HO374.out; subst eo12))
 have n0_ : Aside0 (Kd.S (Kd.slice 3 (Kd.int .i64)) 31 ((w8.setCell ⟨gb377, 0, none⟩ (.int .i64 t371)).setCell ⟨gb377, 1, none⟩ (.slice Ao12 t372.length co12)) w.heap.size (fun _ => True) (.slice Ao12 t372.length co12) t372) := ⟨by (with_reducible repeat (first | apply Zy | apply Zx | apply Zr)); exact Zs (Zw (p := ⟨gb377, 1, none⟩) (Zw (p := ⟨gb377, 0, none⟩) (ZC HO374.out BK377.out (by decide)) (fun _ hk => hk.2) (.int .i64 t371)) (fun _ hk => hk.2) (.slice Ao12 t372.length co12)) (fun _ hk => trivial)⟩
 have n1_ : Aside0 (((w8.setCell ⟨gb377, 0, none⟩ (.int .i64 t371)).setCell ⟨gb377, 1, none⟩ (.slice Ao12 t372.length co12)).heap[gb366]? = some (.cells #[.int .i64 0, .slice none 0 0] 27 (0, 0))) := ⟨by (with_reducible repeat (first | refine Zg ?_ _ | refine Zd ?_ | refine Zf ?_ _)); refine ZK ?_ NB366_377.out _; (with_reducible repeat (first | refine Zg ?_ _ | refine Zd ?_ | refine Zf ?_ _)); refine ZK ?_ NB366_377.out _; (with_reducible repeat (first | refine Zg ?_ _ | refine Zd ?_ | refine Zf ?_ _)); exact BK366.out⟩
 have n2_ : Aside0 (((w8.setCell ⟨gb377, 0, none⟩ (.int .i64 t371)).setCell ⟨gb377, 1, none⟩ (.slice Ao12 t372.length co12)).heap[gb377]? = some (.cells #[.int .i64 t371, .slice Ao12 t372.length co12] 27 (0, 0))) := ⟨by (with_reducible repeat (first | refine Zg ?_ _ | refine Zd ?_ | refine Zf ?_ _)); refine ZT (cs := #[.int .i64 t371, .slice none 0 0]) ?_ 1 _ rfl; (with_reducible repeat (first | refine Zg ?_ _ | refine Zd ?_ | refine Zf ?_ _)); refine ZT (cs := #[.int .i64 0, .slice none 0 0]) ?_ 0 _ rfl; (with_reducible repeat (first | refine Zg ?_ _ | refine Zd ?_ | refine Zf ?_ _)); exact BK377.out⟩
 have n3_ : Aside0 (IsS93 w ((w8.setCell ⟨gb377, 0, none⟩ (.int .i64 t371)).setCell ⟨gb377, 1, none⟩ (.slice Ao12 t372.length co12)) g370 t367 t375 t376) := ⟨by repeat (first | (with_reducible first | exact HI370.out | apply IsS93.alloc | apply IsS93.drewN | apply IsS93.drew | apply IsS93.set_1 | apply IsS93.set_2 | refine IsS93.far ?_ NB370_366.out _ | refine IsS93.far ?_ NB370_377.out _) | exact HI370.out)⟩
 have n4_ : Aside0 (Below w.heap.size w ((w8.setCell ⟨gb377, 0, none⟩ (.int .i64 t371)).setCell ⟨gb377, 1, none⟩ (.slice Ao12 t372.length co12))) := ⟨by repeat (first | (with_reducible first | exact HB.out | apply Zq | apply Zm | apply Zi | refine Zh ?_ (IsS93.ge HI370.out) | refine Zh ?_ GE366.out | refine Zh ?_ GE377.out) | exact HB.out)⟩
 (try clear HO374)
 (try clear BK366)
 (try clear BK377)
 (try clear HI370)
 (try clear HB)
 generalize ((w8.setCell ⟨gb377, 0, none⟩ (.int .i64 t371)).setCell ⟨gb377, 1, none⟩ (.slice Ao12 t372.length co12)) = w13 at n0_ n1_ n2_ n3_ n4_ ⊢
 have HO374 := n0_
 have BK366 := n1_
 have BK377 := n2_
 have HI370 := n3_
 have HB := n4_
 clear n0_ n1_ n2_ n3_ n4_
 replace HO374 := Aside0.mk (Zr HO374.out)
 replace BK366 := Aside0.mk (Zd BK366.out)
 replace BK377 := Aside0.mk (Zd BK377.out)
 replace HI370 := Aside0.mk (IsS93.drew HI370.out)
 replace HB := Aside0.mk (Zi HB.out)
 refine start_ (n := 5) (S := fun w' => w'.cell? ⟨gb377, 0, none⟩ = some (.int .i64 t371) ∧ w'.cell? ⟨gb377, 1, none⟩ = some (.slice Ao12 t372.length co12)) (ds := []) #[O,O,O,O,O] (by kernel_rfl) rfl rfl ⟨(Za BK377.out 0).trans rfl, (Za BK377.out 1).trans rfl⟩ (fun hHeld => ?_)
 generalize w13.drew = w14 at HO374 BK366 BK377 HI370 HB hHeld ⊢
 refine pu_ 1 11 #[O,Y,O,O,O] ?_
 refine tk2_ 0 10 #[Y,Y,O,O,O] hHeld ?_
 refine on_ 2 12 #[Y,Y,Y,O,O] (fun K hK => ?_)
 refine goes_ Try.func84 (by kernel_rfl) rfl #[.pointer (some ⟨g370, 0, none⟩), .int .i64 6] (by rfl) rfl rfl ar_ ?_
 with_reducible refine (spec_l1Below.calls g370 t367 t375 t376 6 t378 t379 t380 w _ ?side1 ?side2 A4.out).mono ?_
 (case side1 => repeat (first | (with_reducible first | exact HI370.out | apply IsS93.alloc | apply IsS93.drewN | apply IsS93.drew | apply IsS93.set_1 | apply IsS93.set_2 | refine IsS93.far ?_ NB370_366.out _ | refine IsS93.far ?_ NB370_377.out _) | exact HI370.out))
 (case side2 => repeat (first | (with_reducible first | exact HB.out | apply Zq | apply Zm | apply Zi | refine Zh ?_ (IsS93.ge HI370.out) | refine Zh ?_ GE366.out | refine Zh ?_ GE377.out) | exact HB.out))
 rintro e w15 ⟨rfl, hi, hb, hk⟩
 refine ⟨_, rfl, ?_⟩
 replace BK366 := Aside0.mk (KeepBut.blk hk (g' := gb366) (o := .cells #[.int .i64 0, .slice none 0 0] 27 (0, 0)) (bk_ BK366.out) NB366_370.out (by simp))
 replace HO374 := Aside0.mk (Zs (Kd.S_keep (IsS93.apartS (show IsS93 w _ g370 t367 t375 t376 from by repeat (first | (with_reducible first | exact HI370.out | apply IsS93.alloc | apply IsS93.drewN | apply IsS93.drew | apply IsS93.set_1 | apply IsS93.set_2 | refine IsS93.far ?_ NB370_366.out _ | refine IsS93.far ?_ NB370_377.out _) | exact HI370.out)) (rS_ HO374.out) (by decide)) hk (fun _ h => h.2)) (fun _ h => h.1))
 replace BK377 := Aside0.mk (KeepBut.blk hk (g' := gb377) (o := .cells #[.int .i64 t371, .slice Ao12 t372.length co12] 27 (0, 0)) (bk_ BK377.out) NB377_370.out (by simp))
 replace HB := Aside0.mk (hb)
 replace HI370 := Aside0.mk (hi)
 (try clear hb)
 (try clear hb2)
 (try clear hk)
 (try clear hi)
 refine hK.out _ _ ⟨(Za BK377.out 0).trans rfl, (Za BK377.out 1).trans rfl⟩ (fun hHeld => ?_)
 clear hK K
 refine no_ 12 ?_
 refine one_ (i := 3) (N := none) #[Y,Y,Y,Y,O] rfl rfl (by kernel_rfl) (by decide) (fun K hK => ?_)
 have hs16 : w15.cell? ⟨gb366, 0, none⟩ = some (.int .i64 0) := (Za BK366.out 0).trans rfl
 have hfs16 := Zb BK366.out 0
 have hns16_1 := NB377_366.out
 have hms16_1 := NB366_377.out
 have hs17 : w15.cell? ⟨gb366, 1, none⟩ = some (.slice none 0 0) := (Za BK366.out 1).trans rfl
 have hfs17 := Zb BK366.out 1
 have hns17_1 := NB377_366.out
 have hms17_1 := NB366_377.out
 refine skip_ (w1 := ?_) (by rfl) rfl ?_ ?_
 rotate_left
 ·go_simp
  rfl
 refine hK.out _ _ ⟨((cell_far (p := ⟨gb366, _, none⟩) NB377_366.out _).trans (((cell_far (p := ⟨gb366, _, none⟩) NB377_366.out _).trans (hHeld.1)))), ((cell_far (p := ⟨gb366, _, none⟩) NB377_366.out _).trans (((cell_far (p := ⟨gb366, _, none⟩) NB377_366.out _).trans (hHeld.2))))⟩ (fun hHeld => ?_)
 clear hK K
 refine pu_ 4 3 #[Y,Y,Y,Y,Y] ?_
 refine done_ (by kernel_rfl) ?_
 try go_wp2
 refine bodyPost_ret (results_ct rfl _ _ gb366 27 #[.int .i64 t371, .slice Ao12 t372.length co12] (0, 0) _ rfl (by (with_reducible repeat (first | refine Zg ?_ _ | refine Zd ?_ | refine Zf ?_ _)); refine ZT (cs := #[.int .i64 t371, .slice none 0 0]) ?_ 1 _ rfl; (with_reducible repeat (first | refine Zg ?_ _ | refine Zd ?_ | refine Zf ?_ _)); refine ZT (cs := #[.int .i64 0, .slice none 0 0]) ?_ 0 _ rfl; (with_reducible repeat (first | refine Zg ?_ _ | refine Zd ?_ | refine Zf ?_ _)); exact BK366.out) Try.underlying27 rfl (by kernel_rfl)) rfl ?_
 exact ⟨_, er_, by (with_reducible repeat (first | apply Zy | apply Zx | apply Zr)); exact Zs (Zw (p := ⟨gb366, 1, none⟩) (Zw (p := ⟨gb366, 0, none⟩) (ZC HO374.out BK366.out (by decide)) (fun _ hk => hk.2) (.int .i64 t371)) (fun _ hk => hk.2) (.slice Ao12 t372.length co12)) (fun _ hk => trivial), by repeat (first | (with_reducible first | exact HB.out | apply Zq | apply Zm | apply Zi | refine Zh ?_ (IsS93.ge HI370.out) | refine Zh ?_ GE366.out | refine Zh ?_ GE377.out) | exact HB.out)⟩

end Go.Proofs.Ytdlobolnajcfnaa.PFnGames
