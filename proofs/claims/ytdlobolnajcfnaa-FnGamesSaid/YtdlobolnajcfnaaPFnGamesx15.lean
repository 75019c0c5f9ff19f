-- Written by a program of this session (hooks of mine on the print): Lean checks it.
import Derived.Test.YtdlobolnajcfnaaPFnGamesx0
import Derived.Test.YtdlobolnajcfnaaPFnGamesx5
import Derived.Test.YtdlobolnajcfnaaPFnGamesx7
import Derived.Test.YtdlobolnajcfnaaPFnGamesx9
import Derived.Test.YtdlobolnajcfnaaPFnGamesx13
import Derived.Test.YtdlobolnajcfnaaPFnGamesx14
namespace Go.Proofs.Ytdlobolnajcfnaa.PFnGames
open Go.RowKit Go.Proofs.YtdlobolnajcfnaaW.PrintWords Go.Proofs.YtdlobolnajcfnaaW.PrintLast Go.Proofs.YtdlobolnajcfnaaW.PrintMore
attribute [local go_sem] max2_int min2_int max_two min_two max_three min_three max_four min_four   -- for this text's walks alone
set_option linter.unusedVariables false
set_option linter.unusedSimpArgs false

/-! ### spec_l8Line: function 118 -/
def spec_l8Line.l0 : Nat → List Int → Int → List Int → Int → Int → Int → List (List Int) → Option (List Int × Int × Int)
 | 0, _, _, _, _, _, _, _ => none
 | k + 1, x5, x6, x1000, x1001, x1002, x427000, x427001 => if x6 > 0 then (if 0 ≤ (wrap64 ((x5.length : Int) - 1)) then (if (wrap64 ((x5.length : Int) - 1)) < (x5.length : Int) then ((spec_AttackersOf.f k x427000 x427001 (rd x5 (wrap64 ((x5.length : Int) - 1)))).bind fun t437 => (if (t437.length : Int) = 0 then (some (x5, x1001, x1002)) else ((spec_l1Below.f x1000 x1001 x1002 (t437.length : Int)).bind fun bt440 => (if 0 ≤ bt440.1 then (if bt440.1 < (t437.length : Int) then (if x5.length < 17592186044416 then (spec_l8Line.l0 k (x5 ++ [rd t437 bt440.1]) (wrap64 (x6 - 1)) x1000 bt440.2.1 bt440.2.2 x427000 x427001) else (none)) else (none)) else (none))))) else (none)) else (none)) else (some (x5, x1001, x1002))
def spec_l8Line.f (k : Nat) (s0_0 : List Int) (s0_1 : Int) (s0_2 : Int) (a1_0 : Int) (l1_1 : List (List Int)) : Option (List Int × Int × Int) := (spec_l1Below.f s0_0 s0_1 s0_2 6).bind fun bt427 => ((spec_l1Below.f s0_0 bt427.2.1 bt427.2.2 5).bind fun bt433 => (spec_l8Line.l0 k (([bt427.1] : List Int)) bt433.1 s0_0 bt433.2.1 bt433.2.2 a1_0 l1_1))
theorem spec_l8Line.mono_l : ∀ k, (∀ y0 y1 y2 y3 y4 y5 y6, LeO (spec_l8Line.l0 k y0 y1 y2 y3 y4 y5 y6) (spec_l8Line.l0 (k + 1) y0 y1 y2 y3 y4 y5 y6))
 | 0 => fun _ _ _ _ _ _ _ r h => by simp [spec_l8Line.l0] at h
 | k + 1 => by
  have ih0 := spec_l8Line.mono_l k
  ·intro y0 y1 y2 y3 y4 y5 y6
   unfold spec_l8Line.l0
   repeat' first
   | (with_reducible exact ih0 _ _ _ _ _ _ _)
   | (with_reducible exact spec_AttackersOf.mono _ _ _ _)
   | (with_reducible exact ZJ _)
   | (with_reducible exact Zn _)
   | (with_reducible refine Zt ?_ ?_)
   | (with_reducible refine Zo ?_ (fun _ => ?_))
   | exact ih0 _ _ _ _ _ _ _
   | exact spec_AttackersOf.mono _ _ _ _
   | exact Zn _
   | refine Zt ?_ ?_
   | refine Zo ?_ (fun _ => ?_)
theorem spec_l8Line.mono : ∀ a0 a1 a2 a3 a4 k, LeO (spec_l8Line.f k a0 a1 a2 a3 a4) (spec_l8Line.f (k + 1) a0 a1 a2 a3 a4) := by
 intro a0 a1 a2 a3 a4 k
 have ih0 := spec_l8Line.mono_l k
 unfold spec_l8Line.f
 repeat' first
   | (with_reducible exact ih0 _ _ _ _ _ _ _)
   | (with_reducible exact spec_AttackersOf.mono _ _ _ _)
   | (with_reducible exact ZJ _)
   | (with_reducible exact Zn _)
   | (with_reducible refine Zt ?_ ?_)
   | (with_reducible refine Zo ?_ (fun _ => ?_))
   | exact ih0 _ _ _ _ _ _ _
   | exact spec_AttackersOf.mono _ _ _ _
   | exact Zn _
   | refine Zt ?_ ?_
   | refine Zo ?_ (fun _ => ?_)
def spec_l8Line.T5 : Bool × List (List Nat × List Nat) := (true, [([], []), ([], []), ([], []), ([2], [2]), ([3], [3]), ([1, 4], [1, 4]), ([5], [5]), ([0, 6], [0, 6]), ([7, 7, 0, 1, 2, 3, 4, 5, 6, 7], [7])])
def spec_l8Line.B5 : List Nat := [0, 0, 0, 4, 12, 30, 62, 127, 255]
theorem spec_l8Line.tab5 : rtab .any (opsOf Try.f118 5) = spec_l8Line.T5 := by kernel_rfl
theorem spec_l8Line.bits5 : waitsOk spec_l8Line.T5.2 spec_l8Line.B5 = true := by kernel_rfl
set_option maxHeartbeats 8000000 in
set_option maxRecDepth 100000 in
theorem spec_l8Line.calls (k : Nat) (g : Nat) (s0_0 : List Int) (s0_1 : Int) (s0_2 : Int) (a1_0 : Int) (A1_1 : Option Addr) (c1_1 : Nat) (l1_1 : List (List Int)) (r1 : List Int) (r2 : Int) (r3 : Int) (w0 w : World) (hI : IsS93 w0 w g s0_0 s0_1 s0_2) (hB : Below w0.heap.size w0 w) (hr1_1 : ∀ W_, KeepBut w W_ g none → Kd.C (Kd.slice 3 (Kd.int .i64)) W_ A1_1 l1_1.length l1_1) (hc1_1 : l1_1.length ≤ c1_1) (h : spec_l8Line.f k s0_0 s0_1 s0_2 a1_0 l1_1 = some (r1, r2, r3)) :
  Calls Try.prog 118 #[.pointer (some ⟨g, 0, none⟩), .agg #[.int .i64 a1_0, .slice A1_1 l1_1.length c1_1]] w fun e w' => ∃ v0_ : Value, e = .returned (v0_) ∧ Kd.R (Kd.int .i64) 3 w' w.heap.size (fun _ => True) v0_ r1 ∧ IsS93 w0 w' g s0_0 r2 r3 ∧ Below w0.heap.size w0 w' ∧ KeepBut w w' g none := by
 have hu27 := Try.underlying27
 have HR1_1 := Aside0.mk hr1_1
 have HC1_1 := Aside0.mk hc1_1
 clear hr1_1 hc1_1
 have HI0 := Aside0.mk hI
 have HK := Aside0.mk (KeepBut.refl w g none)
 have HL := Aside0.mk hB.size
 clear hI
 have HW0 := Aside0.mk hB.size
 have HB := Aside0.mk hB
 clear hB
 have H : ((spec_l1Below.f s0_0 s0_1 s0_2 6).bind fun bt427 => ((spec_l1Below.f s0_0 bt427.2.1 bt427.2.2 5).bind fun bt433 => (spec_l8Line.l0 k (([bt427.1] : List Int)) bt433.1 s0_0 bt433.2.1 bt433.2.2 a1_0 l1_1))) = some (r1, r2, r3) := h
 clear h
 replace H := Option.bind_eq_some_iff.mp H
 obtain ⟨⟨t427, t428, t429⟩, A30, H⟩ := H
 replace H : ((spec_l1Below.f s0_0 t428 t429 5).bind fun bt433 => (spec_l8Line.l0 k (([t427] : List Int)) bt433.1 s0_0 bt433.2.1 bt433.2.2 a1_0 l1_1)) = some (r1, r2, r3) := H
 have A3 := Aside0.mk A30
 clear A30
 obtain ⟨y430, hy430⟩ : ∃ y_ : List Int, y_ = (([t427] : List Int)) := ⟨_, rfl⟩
 replace H : ((spec_l1Below.f s0_0 t428 t429 5).bind fun bt433 => (spec_l8Line.l0 k y430 bt433.1 s0_0 bt433.2.1 bt433.2.2 a1_0 l1_1)) = some (r1, r2, r3) := hy_ hy430 H
 have Ny430 := Aside0.mk hy430
 clear hy430
 replace H := Option.bind_eq_some_iff.mp H
 obtain ⟨⟨t433, t434, t435⟩, A40, H⟩ := H
 replace H : (spec_l8Line.l0 k y430 t433 s0_0 t434 t435 a1_0 l1_1) = some (r1, r2, r3) := H
 have A4 := Aside0.mk A40
 clear A40
 have H' := Aside0.mk H
 clear H
 go_enter Try.func118, Try.ntmps118
 go_wp2_with (first | ((with_reducible refine ZD (N := 3) rfl ?_); refine ZH ?hg (N := 3) ?hd (cs := #[.int .i64 a1_0, .slice A1_1 l1_1.length c1_1]) (t := 27) ?hr ?_; (case hd => rfl); (case hg => rfl); (case hr => first | (go_simp; done) | (go_simp; rfl)); intro gb426 hg w5 hbox hb; replace HB := Aside0.mk (Ze (by repeat (first | (with_reducible first | exact HB.out | apply Zq | apply Zm | apply Zi | refine Zh ?_ (IsS93.ge HI0.out)) | exact HB.out)) hb); have BK426 := Aside0.mk (hbox); have GW426 := Aside0.mk ((by rw [hg]; exact (keep_size (w := w) (g := g) (row := none) (by repeat (first | (with_reducible first | exact HK.out | apply ZF | apply ZL | apply ZQ | apply ZM) | exact HK.out))) : w.heap.size ≤ gb426)); have GE426 := Aside0.mk ((Nat.le_trans HW0.out (by rw [hg]; exact (keep_size (w := w) (g := g) (row := none) (by repeat (first | (with_reducible first | exact HK.out | apply ZF | apply ZL | apply ZQ | apply ZM) | exact HK.out))) : w.heap.size ≤ gb426) : w0.heap.size ≤ gb426)); replace HK := Aside0.mk (KeepBut.trans (by repeat (first | (with_reducible first | exact HK.out | apply ZF | apply ZL | apply ZQ | apply ZM) | exact HK.out)) (KeepBut.of_below hb g none) (.inl rfl)); have NB0_426 := Aside0.mk ((by rw [hg]; exact Nat.ne_of_lt (IsS93.lt (show IsS93 w0 _ g s0_0 s0_1 s0_2 from by repeat (first | (with_reducible first | exact HI0.out | apply IsS93.alloc | apply IsS93.drewN | apply IsS93.drew | apply IsS93.set_1 | apply IsS93.set_2) | exact HI0.out))) : g ≠ gb426)); have NB426_0 := Aside0.mk ((by rw [hg]; exact Nat.ne_of_gt (IsS93.lt (show IsS93 w0 _ g s0_0 s0_1 s0_2 from by repeat (first | (with_reducible first | exact HI0.out | apply IsS93.alloc | apply IsS93.drewN | apply IsS93.drew | apply IsS93.set_1 | apply IsS93.set_2) | exact HI0.out))) : gb426 ≠ g)); replace HI0 := Aside0.mk (IsS93.below (by repeat (first | (with_reducible first | exact HI0.out | apply IsS93.alloc | apply IsS93.drewN | apply IsS93.drew | apply IsS93.set_1 | apply IsS93.set_2) | exact HI0.out)) hb); clear hb hbox hg) | ((with_reducible refine Zj (f := 84) rfl ?_); refine ZE (some 9) rfl rfl Try.func84 (by kernel_rfl) rfl #[.pointer (some ⟨g, 0, none⟩), .int .i64 6] rfl ar_ ?_; (with_reducible refine (spec_l1Below.calls g s0_0 s0_1 s0_2 6 t427 t428 t429 w0 _ ?side1 ?side2 A3.out).mono ?_); (case side1 => repeat (first | (with_reducible first | exact HI0.out | apply IsS93.alloc | apply IsS93.drewN | apply IsS93.drew | apply IsS93.set_1 | apply IsS93.set_2 | refine IsS93.far ?_ NB0_426.out _) | exact HI0.out)); (case side2 => repeat (first | (with_reducible first | exact HB.out | apply Zq | apply Zm | apply Zi | refine Zh ?_ (IsS93.ge HI0.out) | refine Zh ?_ GE426.out) | exact HB.out)); rintro e w6 ⟨rfl, hi, hb, hk⟩; refine ⟨_, rfl, ?_⟩; replace BK426 := Aside0.mk (KeepBut.blk hk (g' := gb426) (o := .cells #[.int .i64 a1_0, .slice A1_1 l1_1.length c1_1] 27 (0, 0)) (bk_ BK426.out) NB426_0.out (by simp)); replace HK := Aside0.mk (KeepBut.trans (by repeat (first | (with_reducible first | exact HK.out | apply ZF | apply ZL | apply ZQ | apply ZM | refine keep_far ?_ GW426.out _) | exact HK.out)) hk (.inl rfl)); replace HB := Aside0.mk (hb); replace HI0 := Aside0.mk (hi); (try clear hb); (try clear hb2); (try clear hk); (try clear hi)) | ((with_reducible refine ZD (N := 10) rfl ?_); refine Kd.R_lit (Kd.int .i64) _ 3 ?hg (N := 10) ?hd (xs := ([t427] : List Int)) (inner := [.int .i64 t427]) (ok := fun _ => True) (okp := fun _ => True) ?hr ?hp (fun _ hk => hk) trivial (Below.refl _ _) (Nat.le_refl _) (by simp) ?_; (case hd => rfl); (case hg => rfl); (case hr => first | (go_simp; done) | (go_simp; rfl)); (case hp => exact (Reps.one (show Kd.M (Kd.int .i64) _ _ _ t427 [.int .i64 t427] from rfl) (Reps.none _ _))); intro v431 w7 ho8 hb hg_ hnew_; clear hg_ hnew_; (first | rw [← Ny430.out] at ho8 | (simp only [Int.reduceToNat] at ho8; rw [← Ny430.out] at ho8)); have HO432 := Aside0.mk (ZI ho8 (keep_size (w := w) (g := g) (row := none) (by repeat (first | (with_reducible first | exact HK.out | apply ZF | apply ZL | apply ZQ | apply ZM | refine keep_far ?_ GW426.out _) | exact HK.out)))); replace BK426 := Aside0.mk (Zc (g := gb426) (o := .cells #[.int .i64 a1_0, .slice A1_1 l1_1.length c1_1] 27 (0, 0)) (bk_ BK426.out) hb); replace HK := Aside0.mk (KeepBut.trans (by repeat (first | (with_reducible first | exact HK.out | apply ZF | apply ZL | apply ZQ | apply ZM | refine keep_far ?_ GW426.out _) | exact HK.out)) (KeepBut.of_below hb g none) (.inl rfl)); replace HB := Aside0.mk (Ze (by repeat (first | (with_reducible first | exact HB.out | apply Zq | apply Zm | apply Zi | refine Zh ?_ (IsS93.ge HI0.out) | refine Zh ?_ GE426.out) | exact HB.out)) hb); replace HI0 := Aside0.mk (IsS93.below (by repeat (first | (with_reducible first | exact HI0.out | apply IsS93.alloc | apply IsS93.drewN | apply IsS93.drew | apply IsS93.set_1 | apply IsS93.set_2 | refine IsS93.far ?_ NB0_426.out _) | exact HI0.out)) hb); clear hb ho8) | ((with_reducible refine Zj (f := 84) rfl ?_); refine ZE (some 12) rfl rfl Try.func84 (by kernel_rfl) rfl #[.pointer (some ⟨g, 0, none⟩), .int .i64 5] rfl ar_ ?_; (with_reducible refine (spec_l1Below.calls g s0_0 t428 t429 5 t433 t434 t435 w0 _ ?side1 ?side2 A4.out).mono ?_); (case side1 => repeat (first | (with_reducible first | exact HI0.out | apply IsS93.alloc | apply IsS93.drewN | apply IsS93.drew | apply IsS93.set_1 | apply IsS93.set_2 | refine IsS93.far ?_ NB0_426.out _) | exact HI0.out)); (case side2 => repeat (first | (with_reducible first | exact HB.out | apply Zq | apply Zm | apply Zi | refine Zh ?_ (IsS93.ge HI0.out) | refine Zh ?_ GE426.out) | exact HB.out)); rintro e w9 ⟨rfl, hi, hb, hk⟩; refine ⟨_, rfl, ?_⟩; replace BK426 := Aside0.mk (KeepBut.blk hk (g' := gb426) (o := .cells #[.int .i64 a1_0, .slice A1_1 l1_1.length c1_1] 27 (0, 0)) (bk_ BK426.out) NB426_0.out (by simp)); replace HO432 := Aside0.mk (Zz (Kd.R_keep (IsS93.apart (show IsS93 w0 _ g s0_0 t428 t429 from by repeat (first | (with_reducible first | exact HI0.out | apply IsS93.alloc | apply IsS93.drewN | apply IsS93.drew | apply IsS93.set_1 | apply IsS93.set_2 | refine IsS93.far ?_ NB0_426.out _) | exact HI0.out)) (rR_ HO432.out) (by decide)) hk (fun _ h => h.2)) (fun _ h => h.1)); replace HK := Aside0.mk (KeepBut.trans (by repeat (first | (with_reducible first | exact HK.out | apply ZF | apply ZL | apply ZQ | apply ZM | refine keep_far ?_ GW426.out _) | exact HK.out)) hk (.inl rfl)); replace HB := Aside0.mk (hb); replace HI0 := Aside0.mk (hi); (try clear hb); (try clear hb2); (try clear hk); (try clear hi)))
 go_loopg [5, 6] k (fun kq v5 v6 w' => ∃ (x5_1 : List Int) (x6_1 : Int) (x1001_1 : Int) (x1002_1 : Int), v6 = .int .i64 x6_1 ∧ Aside0 (spec_l8Line.l0 kq x5_1 x6_1 s0_0 x1001_1 x1002_1 a1_0 l1_1 = some (r1, r2, r3)) ∧ Aside0 (kq ≤ k) ∧ Aside0 (Kd.R (Kd.int .i64) 3 w' w.heap.size (fun _ => True) v5 x5_1) ∧ Aside0 (w'.heap[gb426]? = some (.cells #[.int .i64 a1_0, (.slice A1_1 l1_1.length c1_1)] 27 (0, 0))) ∧ Aside0 (IsS93 w0 w' g s0_0 x1001_1 x1002_1) ∧ Aside0 (KeepBut w w' g none) ∧ Aside0 (Below w0.heap.size w0 w'))
 case atStart => exact ⟨(y430), (t433), (t434), (t435), sm_, H', ⟨Nat.le_refl _⟩, ⟨rR_ HO432.out⟩, ⟨bk_ BK426.out⟩, ⟨by repeat (first | (with_reducible first | exact HI0.out | apply IsS93.alloc | apply IsS93.drewN | apply IsS93.drew | apply IsS93.set_1 | apply IsS93.set_2 | refine IsS93.far ?_ NB0_426.out _) | exact HI0.out)⟩, ⟨by repeat (first | (with_reducible first | exact HK.out | apply ZF | apply ZL | apply ZQ | apply ZM | refine keep_far ?_ GW426.out _) | exact HK.out)⟩, ⟨by repeat (first | (with_reducible first | exact HB.out | apply Zq | apply Zm | apply Zi | refine Zh ?_ (IsS93.ge HI0.out) | refine Zh ?_ GE426.out) | exact HB.out)⟩⟩
 case round =>
  clear H'
  try clear c1
  try clear p2
  try clear c8
  obtain ⟨x5_1, x6_1, x1001_1, x1002_1, rfl, HA, HK1, HO_5, BK426, HI0, HK, HB⟩ := hrel
  cases gk with
  | zero => exact absurd HA.out (by simp [spec_l8Line.l0])
  | succ k1 =>
   have H := HA.out
   clear HA
   simp only [spec_l8Line.l0] at H
   by_cases c10 : x6_1 > 0
   ·rw [if_pos c10] at H
    have c10b0 : decide (0 < x6_1) = true := decide_eq_true c10
    clear c10
    obtain ⟨ji11, hji11⟩ : ∃ j_ : Int, (wrap64 ((x5_1.length : Int) - 1)) = j_ := ⟨_, rfl⟩
    replace H : (if 0 ≤ (ji11) then (if (ji11) < (x5_1.length : Int) then ((spec_AttackersOf.f k1 a1_0 l1_1 (rd x5_1 (ji11))).bind fun t437 => (if (t437.length : Int) = 0 then (some (x5_1, x1001_1, x1002_1)) else ((spec_l1Below.f s0_0 x1001_1 x1002_1 (t437.length : Int)).bind fun bt440 => (if 0 ≤ bt440.1 then (if bt440.1 < (t437.length : Int) then (if x5_1.length < 17592186044416 then (spec_l8Line.l0 k1 (x5_1 ++ [rd t437 bt440.1]) (wrap64 (x6_1 - 1)) s0_0 bt440.2.1 bt440.2.2 a1_0 l1_1) else (none)) else (none)) else (none))))) else (none)) else (none)) = some (r1, r2, r3) := by first | (rw [hji11] at H; exact H) | (simp only [hji11] at H ⊢; exact H)
    have hji11w : (IntKind.i64.wrap ((x5_1.length : Int) - 1)) = ji11 := (i64_w _).trans hji11
    by_cases c12 : 0 ≤ (ji11)
    ·rw [if_pos c12] at H
     have c12b0 : decide (0 ≤ (ji11)) = true := decide_eq_true c12
     clear c12
     by_cases c13 : (ji11) < (x5_1.length : Int)
     ·rw [if_pos c13] at H
      have c13b0 : decide ((ji11) < (x5_1.length : Int)) = true := decide_eq_true c13
      clear c13
      replace H := Option.bind_eq_some_iff.mp H
      obtain ⟨t437, A140, H⟩ := H
      replace H : (if (t437.length : Int) = 0 then (some (x5_1, x1001_1, x1002_1)) else ((spec_l1Below.f s0_0 x1001_1 x1002_1 (t437.length : Int)).bind fun bt440 => (if 0 ≤ bt440.1 then (if bt440.1 < (t437.length : Int) then (if x5_1.length < 17592186044416 then (spec_l8Line.l0 k1 (x5_1 ++ [rd t437 bt440.1]) (wrap64 (x6_1 - 1)) s0_0 bt440.2.1 bt440.2.2 a1_0 l1_1) else (none)) else (none)) else (none)))) = some (r1, r2, r3) := H
      have A14 := Aside0.mk A140
      clear A140
      by_cases c15 : (t437.length : Int) = 0
      ·rw [if_pos c15] at H
       have c15b0 : ((t437.length : Int) == 0) = true := beq_iff_eq.mpr c15
       have c15b1 : ((t437.length : Int) != 0) = false := bne_eq_false_iff_eq.mpr c15
       clear c15
       simp only [Option.some.injEq, Prod.mk.injEq] at H
       obtain ⟨rfl, rfl, rfl⟩ := H
       try go_wp2
       replace HO_5 := Aside0.mk (ZR HO_5.out)
       replace BK426 := Aside0.mk (Zd BK426.out)
       replace HI0 := Aside0.mk (IsS93.drew HI0.out)
       replace HK := Aside0.mk (ZQ HK.out)
       replace HB := Aside0.mk (Zi HB.out)
       obtain ⟨Ao17, co17, eo17⟩ := ZP HO_5.out
       (first | subst eo17 | (injection eo17 with f1_ f2_ f3_; have f4_ := f1_.symm; have f5_ := f3_.symm; clear f1_ f2_ f3_; subst f4_; subst f5_))
       have p436 : 0 ≤ ((ji11) : Int) := of_decide_eq_true as_
       have q436 : (ji11) < (x5_1.length : Int) := of_decide_eq_true as_
       obtain ⟨ad436, e436, hx436_0⟩ := Zv (Zp HO_5.out).2.2 (ji11) p436 q436
       cases e436
       replace p436 := eq_true p436
       replace q436 := eq_true q436
       refine start_ (n := 9) (S := fun w' => w'.cell? ⟨gb426, 0, none⟩ = some (.int .i64 a1_0) ∧ w'.cell? ⟨gb426, 1, none⟩ = some (.slice A1_1 l1_1.length c1_1) ∧ w'.cell? (ad436.add ((ji11)).toNat) = some (.int .i64 (rd x5_1 (ji11)))) (ds := []) #[O,O,O,O,O,O,O,O,O] (by kernel_rfl) rfl rfl ⟨(Za BK426.out 0).trans rfl, (Za BK426.out 1).trans rfl, hx436_0⟩ (fun hHeld => ?_); refine with_tabW spec_l8Line.tab5 spec_l8Line.bits5 (fun HT_ HW_ => ?_)
       generalize wr.drew = w16 at HO_5 BK426 HI0 HK HB hx436_0 hHeld ⊢
       refine pu_ 1 18 #[O,Y,O,O,O,O,O,O,O] ?_
       refine pu_ 2 19 #[O,Y,Y,O,O,O,O,O,O] ?_
       refine pu_ 3 20 #[O,Y,Y,Y,O,O,O,O,O] ?_
       refine pu_ 4 21 #[O,Y,Y,Y,Y,O,O,O,O] ?_
       refine pu_ 5 22 #[O,Y,Y,Y,Y,Y,O,O,O] ?_
       refine tk3_ 0 17 #[Y,Y,Y,Y,Y,Y,O,O,O] hHeld ?_
       refine tk3_ 6 23 #[Y,Y,Y,Y,Y,Y,Y,O,O] hHeld ?_
       refine on_ 7 24 #[Y,Y,Y,Y,Y,Y,Y,Y,O] (fun K hK => ?_)
       refine goes_ Try.func106 (by kernel_rfl) rfl #[.agg #[.int .i64 a1_0, .slice A1_1 l1_1.length c1_1], .int .i64 (rd x5_1 (ji11))] (by rfl) rfl rfl (by (try simp only [List.map_toArray, List.map_cons, List.map_nil]); first | done | (simp only [hji11]; rfl) | rfl | (simp only [List.length_drop, List.length_take]; rfl)) ?_
       with_reducible refine (spec_AttackersOf.calls k1 a1_0 _ _ l1_1 (rd x5_1 (ji11)) t437 _ ?side1 ?side2 A14.out).mono ?_
       (case side1 => exact Kd.C_foot_now HR1_1.out (by repeat (first | (with_reducible first | exact HK.out | apply ZF | apply ZL | apply ZQ | apply ZM | refine keep_far ?_ GW426.out _) | exact HK.out)))
       (case side2 => exact HC1_1.out)
       rintro e w18 ⟨v438, rfl, ho0, hb⟩
       have HS2_ := (hb.cell (World.block_lt_of_cell? _ _ (hHeld.2.2))).trans (hHeld.2.2)
       refine ⟨_, rfl, ?_⟩
       have HO439 := Aside0.mk (ZI (Kd.R_new' ho0 (Kd.R_lt (rR_ HO_5.out))) (keep_size (w := w) (g := g) (row := none) (by repeat (first | (with_reducible first | exact HK.out | apply ZF | apply ZL | apply ZQ | apply ZM | refine keep_far ?_ GW426.out _) | exact HK.out))))
       replace HO_5 := Aside0.mk (Kd.R_elder' (rR_ HO_5.out) (ZS ho0) hb)
       replace BK426 := Aside0.mk (Zc (g := gb426) (o := .cells #[.int .i64 a1_0, .slice A1_1 l1_1.length c1_1] 27 (0, 0)) (bk_ BK426.out) hb)
       replace HK := Aside0.mk (KeepBut.trans (by repeat (first | (with_reducible first | exact HK.out | apply ZF | apply ZL | apply ZQ | apply ZM | refine keep_far ?_ GW426.out _) | exact HK.out)) (KeepBut.of_below hb g none) (.inl rfl))
       replace HB := Aside0.mk (Ze (by repeat (first | (with_reducible first | exact HB.out | apply Zq | apply Zm | apply Zi | refine Zh ?_ (IsS93.ge HI0.out) | refine Zh ?_ GE426.out) | exact HB.out)) hb)
       replace HI0 := Aside0.mk (IsS93.below (by repeat (first | (with_reducible first | exact HI0.out | apply IsS93.alloc | apply IsS93.drewN | apply IsS93.drew | apply IsS93.set_1 | apply IsS93.set_2 | refine IsS93.far ?_ NB0_426.out _) | exact HI0.out)) hb)
       (try clear hb)
       (try clear hb2)
       (try clear hk)
       (try clear hi)
       (try clear ho0)
       refine hK.out _ _ ⟨(Za BK426.out 0).trans rfl, (Za BK426.out 1).trans rfl, HS2_⟩ (fun hHeld => ?_)
       clear hK K
       refine no_ 24 ?_
       refine pu_ 8 7 #[Y,Y,Y,Y,Y,Y,Y,Y,Y] ?_
       refine done_ (done_of HT_.out (by kernel_rfl)) ?_
       obtain ⟨Ao19, co19, eo19⟩ := ZP HO439.out
       subst eo19
       try go_wp2
       go_ret
       exact ⟨_, by first | rfl | (simp [errW_none, errW_some] <;> rfl) | (simp only [← hji11]; first | rfl | (simp [errW_none, errW_some] <;> rfl)) | (simp [*, errW_none, errW_some] <;> rfl), by (with_reducible repeat (first | apply Kd.R_alloc | apply Kd.R_drewN | apply ZR)); exact Zz HO_5.out (fun _ hk => trivial), by repeat (first | (with_reducible first | exact HI0.out | apply IsS93.alloc | apply IsS93.drewN | apply IsS93.drew | apply IsS93.set_1 | apply IsS93.set_2 | refine IsS93.far ?_ NB0_426.out _) | exact HI0.out), by repeat (first | (with_reducible first | exact HB.out | apply Zq | apply Zm | apply Zi | refine Zh ?_ (IsS93.ge HI0.out) | refine Zh ?_ GE426.out) | exact HB.out), by repeat (first | (with_reducible first | exact HK.out | apply ZF | apply ZL | apply ZQ | apply ZM | refine keep_far ?_ GW426.out _) | exact HK.out)⟩
      ·rw [if_neg c15] at H
       have c15b0 : ((t437.length : Int) == 0) = false := beq_eq_false_iff_ne.mpr c15
       have c15b1 : ((t437.length : Int) != 0) = true := bne_iff_ne.mpr c15
       have c15b2 : ¬ (t437 = []) := fun h_ => c15 (by rw [h_]; rfl)
       replace H := Option.bind_eq_some_iff.mp H
       obtain ⟨⟨t440, t441, t442⟩, A200, H⟩ := H
       replace H : (if 0 ≤ t440 then (if t440 < (t437.length : Int) then (if x5_1.length < 17592186044416 then (spec_l8Line.l0 k1 (x5_1 ++ [rd t437 t440]) (wrap64 (x6_1 - 1)) s0_0 t441 t442 a1_0 l1_1) else (none)) else (none)) else (none)) = some (r1, r2, r3) := H
       have A20 := Aside0.mk A200
       clear A200
       by_cases c21 : 0 ≤ t440
       ·rw [if_pos c21] at H
        have c21b0 : decide (0 ≤ t440) = true := decide_eq_true c21
        clear c21
        by_cases c22 : t440 < (t437.length : Int)
        ·rw [if_pos c22] at H
         have c22b0 : decide (t440 < (t437.length : Int)) = true := decide_eq_true c22
         clear c22
         by_cases c23 : x5_1.length < 17592186044416
         ·rw [if_pos c23] at H
          have LMc23 := Aside0.mk c23
          clear c23
          obtain ⟨y444, hy444⟩ : ∃ y_ : List Int, y_ = (x5_1 ++ [rd t437 t440]) := ⟨_, rfl⟩
          replace H : (spec_l8Line.l0 k1 y444 (wrap64 (x6_1 - 1)) s0_0 t441 t442 a1_0 l1_1) = some (r1, r2, r3) := hy_ hy444 H
          have Ny444 := Aside0.mk hy444
          clear hy444
          have H' := Aside0.mk H
          clear H
          try go_wp2
          replace HO_5 := Aside0.mk (ZR HO_5.out)
          replace BK426 := Aside0.mk (Zd BK426.out)
          replace HI0 := Aside0.mk (IsS93.drew HI0.out)
          replace HK := Aside0.mk (ZQ HK.out)
          replace HB := Aside0.mk (Zi HB.out)
          obtain ⟨Ao25, co25, eo25⟩ := ZP HO_5.out
          (first | subst eo25 | (injection eo25 with f1_ f2_ f3_; have f4_ := f1_.symm; have f5_ := f3_.symm; clear f1_ f2_ f3_; subst f4_; subst f5_))
          have p436 : 0 ≤ ((ji11) : Int) := of_decide_eq_true as_
          have q436 : (ji11) < (x5_1.length : Int) := of_decide_eq_true as_
          obtain ⟨ad436, e436, hx436_0⟩ := Zv (Zp HO_5.out).2.2 (ji11) p436 q436
          cases e436
          replace p436 := eq_true p436
          replace q436 := eq_true q436
          refine start_ (n := 9) (S := fun w' => w'.cell? ⟨gb426, 0, none⟩ = some (.int .i64 a1_0) ∧ w'.cell? ⟨gb426, 1, none⟩ = some (.slice A1_1 l1_1.length c1_1) ∧ w'.cell? (ad436.add ((ji11)).toNat) = some (.int .i64 (rd x5_1 (ji11)))) (ds := []) #[O,O,O,O,O,O,O,O,O] (by kernel_rfl) rfl rfl ⟨(Za BK426.out 0).trans rfl, (Za BK426.out 1).trans rfl, hx436_0⟩ (fun hHeld => ?_); refine with_tabW spec_l8Line.tab5 spec_l8Line.bits5 (fun HT_ HW_ => ?_)
          generalize wr.drew = w24 at HO_5 BK426 HI0 HK HB hx436_0 hHeld ⊢
          refine pu_ 1 18 #[O,Y,O,O,O,O,O,O,O] ?_
          refine pu_ 2 19 #[O,Y,Y,O,O,O,O,O,O] ?_
          refine pu_ 3 20 #[O,Y,Y,Y,O,O,O,O,O] ?_
          refine pu_ 4 21 #[O,Y,Y,Y,Y,O,O,O,O] ?_
          refine pu_ 5 22 #[O,Y,Y,Y,Y,Y,O,O,O] ?_
          refine tk3_ 0 17 #[Y,Y,Y,Y,Y,Y,O,O,O] hHeld ?_
          refine tk3_ 6 23 #[Y,Y,Y,Y,Y,Y,Y,O,O] hHeld ?_
          refine on_ 7 24 #[Y,Y,Y,Y,Y,Y,Y,Y,O] (fun K hK => ?_)
          refine goes_ Try.func106 (by kernel_rfl) rfl #[.agg #[.int .i64 a1_0, .slice A1_1 l1_1.length c1_1], .int .i64 (rd x5_1 (ji11))] (by rfl) rfl rfl (by (try simp only [List.map_toArray, List.map_cons, List.map_nil]); first | done | (simp only [hji11]; rfl) | rfl | (simp only [List.length_drop, List.length_take]; rfl)) ?_
          with_reducible refine (spec_AttackersOf.calls k1 a1_0 _ _ l1_1 (rd x5_1 (ji11)) t437 _ ?side1 ?side2 A14.out).mono ?_
          (case side1 => exact Kd.C_foot_now HR1_1.out (by repeat (first | (with_reducible first | exact HK.out | apply ZF | apply ZL | apply ZQ | apply ZM | refine keep_far ?_ GW426.out _) | exact HK.out)))
          (case side2 => exact HC1_1.out)
          rintro e w26 ⟨v438, rfl, ho0, hb⟩
          have HS2_ := (hb.cell (World.block_lt_of_cell? _ _ (hHeld.2.2))).trans (hHeld.2.2)
          refine ⟨_, rfl, ?_⟩
          have HO439 := Aside0.mk (ZI (Kd.R_new' ho0 (Kd.R_lt (rR_ HO_5.out))) (keep_size (w := w) (g := g) (row := none) (by repeat (first | (with_reducible first | exact HK.out | apply ZF | apply ZL | apply ZQ | apply ZM | refine keep_far ?_ GW426.out _) | exact HK.out))))
          replace HO_5 := Aside0.mk (Kd.R_elder' (rR_ HO_5.out) (ZS ho0) hb)
          replace BK426 := Aside0.mk (Zc (g := gb426) (o := .cells #[.int .i64 a1_0, .slice A1_1 l1_1.length c1_1] 27 (0, 0)) (bk_ BK426.out) hb)
          replace HK := Aside0.mk (KeepBut.trans (by repeat (first | (with_reducible first | exact HK.out | apply ZF | apply ZL | apply ZQ | apply ZM | refine keep_far ?_ GW426.out _) | exact HK.out)) (KeepBut.of_below hb g none) (.inl rfl))
          replace HB := Aside0.mk (Ze (by repeat (first | (with_reducible first | exact HB.out | apply Zq | apply Zm | apply Zi | refine Zh ?_ (IsS93.ge HI0.out) | refine Zh ?_ GE426.out) | exact HB.out)) hb)
          replace HI0 := Aside0.mk (IsS93.below (by repeat (first | (with_reducible first | exact HI0.out | apply IsS93.alloc | apply IsS93.drewN | apply IsS93.drew | apply IsS93.set_1 | apply IsS93.set_2 | refine IsS93.far ?_ NB0_426.out _) | exact HI0.out)) hb)
          (try clear hb)
          (try clear hb2)
          (try clear hk)
          (try clear hi)
          (try clear ho0)
          refine hK.out _ _ ⟨(Za BK426.out 0).trans rfl, (Za BK426.out 1).trans rfl, HS2_⟩ (fun hHeld => ?_)
          clear hK K
          refine no_ 24 ?_
          refine pu_ 8 7 #[Y,Y,Y,Y,Y,Y,Y,Y,Y] ?_
          refine done_ (done_of HT_.out (by kernel_rfl)) ?_
          obtain ⟨Ao27, co27, eo27⟩ := ZP HO439.out
          subst eo27
          try go_wp2_with (first | ((with_reducible refine Zj (f := 84) rfl ?_); refine ZE (some 34) rfl rfl Try.func84 (by kernel_rfl) rfl #[.pointer (some ⟨g, 0, none⟩), .int .i64 (t437.length : Int)] rfl ar_ ?_; (with_reducible refine (spec_l1Below.calls g s0_0 x1001_1 x1002_1 (t437.length : Int) t440 t441 t442 w0 _ ?side1 ?side2 A20.out).mono ?_); (case side1 => repeat (first | (with_reducible first | exact HI0.out | apply IsS93.alloc | apply IsS93.drewN | apply IsS93.drew | apply IsS93.set_1 | apply IsS93.set_2 | refine IsS93.far ?_ NB0_426.out _) | exact HI0.out)); (case side2 => repeat (first | (with_reducible first | exact HB.out | apply Zq | apply Zm | apply Zi | refine Zh ?_ (IsS93.ge HI0.out) | refine Zh ?_ GE426.out) | exact HB.out)); rintro e w28 ⟨rfl, hi, hb, hk⟩; refine ⟨_, rfl, ?_⟩; replace HO_5 := Aside0.mk (Zz (Kd.R_keep (IsS93.apart (show IsS93 w0 _ g s0_0 x1001_1 x1002_1 from by repeat (first | (with_reducible first | exact HI0.out | apply IsS93.alloc | apply IsS93.drewN | apply IsS93.drew | apply IsS93.set_1 | apply IsS93.set_2 | refine IsS93.far ?_ NB0_426.out _) | exact HI0.out)) (rR_ HO_5.out) (by decide)) hk (fun _ h => h.2)) (fun _ h => h.1)); replace BK426 := Aside0.mk (KeepBut.blk hk (g' := gb426) (o := .cells #[.int .i64 a1_0, .slice A1_1 l1_1.length c1_1] 27 (0, 0)) (bk_ BK426.out) NB426_0.out (by simp)); replace HO439 := Aside0.mk (Zz (Kd.R_keep (IsS93.apart (show IsS93 w0 _ g s0_0 x1001_1 x1002_1 from by repeat (first | (with_reducible first | exact HI0.out | apply IsS93.alloc | apply IsS93.drewN | apply IsS93.drew | apply IsS93.set_1 | apply IsS93.set_2 | refine IsS93.far ?_ NB0_426.out _) | exact HI0.out)) (rR_ HO439.out) (by decide)) hk (fun _ h => h.2)) (fun _ h => h.1)); replace HK := Aside0.mk (KeepBut.trans (by repeat (first | (with_reducible first | exact HK.out | apply ZF | apply ZL | apply ZQ | apply ZM | refine keep_far ?_ GW426.out _) | exact HK.out)) hk (.inl rfl)); replace HB := Aside0.mk (hb); replace HI0 := Aside0.mk (hi); (try clear hb); (try clear hb2); (try clear hk); (try clear hi); have p443 : 0 ≤ (t440 : Int) := of_decide_eq_true as_; have q443 : t440 < (t437.length : Int) := of_decide_eq_true as_; obtain ⟨ad443, e443, hx443_0⟩ := Zv (Zp HO439.out).2.2 t440 p443 q443; cases e443; replace p443 := eq_true p443; replace q443 := eq_true q443) | ((with_reducible refine gate_builtin (b := .append) (xs := #[.tmp 29, .tmp 37]) rfl ?_); at_builtin; refine Kd.R_append (Kd.int .i64) w.heap.size rfl (.tmp 29) (.tmp 37) 31 3 (.int .i64 0) 8 rfl Try.underlying31 info3 rfl (by decide) (by omega) (.slice (some ad436) x5_1.length co25) x5_1 (rd t437 t440) [.int .i64 (rd t437 t440)] (fun k_ => some k_ ≠ (.slice (some ad443) t437.length co27 : Value).ownBlock) (fun _ => False) rfl rfl ?aP (fun _ hk => hk.elim) ?aF ?aO (Below.refl _ _) ?aS ?aL ?_; (case aP => exact rfl); (case aF => exact (fun k_ hk => Kd.fresh' (Kd.R_lt (rR_ HO439.out)) k_ hk)); (case aO => exact (by (with_reducible repeat (first | apply Kd.R_alloc | apply Kd.R_drewN | apply ZR)); exact Zz HO_5.out (fun _ hk => hk.2))); (case aS => exact (keep_size (w := w) (g := g) (row := none) (by repeat (first | (with_reducible first | exact HK.out | apply ZF | apply ZL | apply ZQ | apply ZM | refine keep_far ?_ GW426.out _) | exact HK.out)))); (case aL => have := LMc23.out; omega); intro v445 w29 ho hb hg hat; rw [← Ny444.out] at ho; have n0_ := Aside0.mk (ZO (g := gb426) (o := .cells #[.int .i64 a1_0, .slice A1_1 l1_1.length c1_1] 27 (0, 0)) (bk_ BK426.out) hg (Kd.R_ne HO_5.out BK426.out (by decide))); have n1_ := Aside0.mk (IsS93.grown (by repeat (first | (with_reducible first | exact HI0.out | apply IsS93.alloc | apply IsS93.drewN | apply IsS93.drew | apply IsS93.set_1 | apply IsS93.set_2 | refine IsS93.far ?_ NB0_426.out _) | exact HI0.out)) hg (IsS93.own_ne HI0.out HO_5.out (by decide))); have n2_ := Aside0.mk (Kd.R_after (ok := (fun _ => True)) (rR_ HO439.out) hg hat); have n3_ := Aside0.mk (below_weaken (by repeat (first | (with_reducible first | exact HB.out | apply Zq | apply Zm | apply Zi | refine Zh ?_ (IsS93.ge HI0.out) | refine Zh ?_ GE426.out) | exact HB.out)) HL.out hb); have n4_ := Aside0.mk (KeepBut.trans (by repeat (first | (with_reducible first | exact HK.out | apply ZF | apply ZL | apply ZQ | apply ZM | refine keep_far ?_ GW426.out _) | exact HK.out)) (KeepBut.of_grown hg g) (Kd.R_base2 HO_5.out)); have n5_ := Aside0.mk (ho); clear BK426; clear HI0; clear HO439; clear HB; clear HK; clear HO_5; have BK426 := n0_; have HI0 := n1_; have HO439 := n2_; have HB := n3_; have HK := n4_; have HO446 := n5_; clear n0_ n1_ n2_ n3_ n4_ n5_; clear ho hb hg hat))
          go_roundg k1
          case measure => have := HK1.out; omega
          case rel => exact ⟨(y444), (wrap64 (x6_1 - 1)), (t441), (t442), sm_, H', ⟨by have := HK1.out; omega⟩, ⟨by (with_reducible repeat (first | apply Kd.R_alloc | apply Kd.R_drewN | apply ZR)); exact Zz HO446.out (fun _ hk => trivial)⟩, ⟨bk_ BK426.out⟩, ⟨by repeat (first | (with_reducible first | exact HI0.out | apply IsS93.alloc | apply IsS93.drewN | apply IsS93.drew | apply IsS93.set_1 | apply IsS93.set_2 | refine IsS93.far ?_ NB0_426.out _) | exact HI0.out)⟩, ⟨by repeat (first | (with_reducible first | exact HK.out | apply ZF | apply ZL | apply ZQ | apply ZM | refine keep_far ?_ GW426.out _) | exact HK.out)⟩, ⟨by repeat (first | (with_reducible first | exact HB.out | apply Zq | apply Zm | apply Zi | refine Zh ?_ (IsS93.ge HI0.out) | refine Zh ?_ GE426.out) | exact HB.out)⟩⟩
         ·rw [if_neg c23] at H
          exact absurd H (by simp)
        ·rw [if_neg c22] at H
         exact absurd H (by simp)
       ·rw [if_neg c21] at H
        exact absurd H (by simp)
     ·rw [if_neg c13] at H
      exact absurd H (by simp)
    ·rw [if_neg c12] at H
     exact absurd H (by simp)
   ·rw [if_neg c10] at H
    have c10b0 : decide (0 < x6_1) = false := decide_eq_false c10
    clear c10
    simp only [Option.some.injEq, Prod.mk.injEq] at H
    obtain ⟨rfl, rfl, rfl⟩ := H
    go_wp2
    go_ret
    exact ⟨_, er_, rR_ HO_5.out, by repeat (first | (with_reducible first | exact HI0.out | apply IsS93.alloc | apply IsS93.drewN | apply IsS93.drew | apply IsS93.set_1 | apply IsS93.set_2 | refine IsS93.far ?_ NB0_426.out _) | exact HI0.out), by repeat (first | (with_reducible first | exact HB.out | apply Zq | apply Zm | apply Zi | refine Zh ?_ (IsS93.ge HI0.out) | refine Zh ?_ GE426.out) | exact HB.out), by repeat (first | (with_reducible first | exact HK.out | apply ZF | apply ZL | apply ZQ | apply ZM | refine keep_far ?_ GW426.out _) | exact HK.out)⟩

/-! ### spec_DrawIsLine: function 86 -/
def spec_DrawIsLine.f (k : Nat) (l0 : List Int) : Option (Int × (List (List Int)) × List Int) := (spec_l1New.f k l0).bind fun bt448 => ((spec_l8Small.f k bt448.1 bt448.2.1 bt448.2.2).bind fun bt452 => ((spec_l8Line.f k bt448.1 bt452.2.2.1 bt452.2.2.2 bt452.1 bt452.2.1).bind fun bt459 => (some (bt452.1, bt452.2.1, bt459.1))))
theorem spec_DrawIsLine.mono : ∀ a0 k, LeO (spec_DrawIsLine.f k a0) (spec_DrawIsLine.f (k + 1) a0) := by
 intro a0 k
 unfold spec_DrawIsLine.f
 repeat' first
   | (with_reducible exact spec_l1New.mono _ _)
   | (with_reducible exact spec_l8Line.mono _ _ _ _ _ _)
   | (with_reducible exact spec_l8Small.mono _ _ _ _)
   | (with_reducible exact ZJ _)
   | (with_reducible exact Zn _)
   | (with_reducible refine Zt ?_ ?_)
   | (with_reducible refine Zo ?_ (fun _ => ?_))
   | exact spec_l1New.mono _ _
   | exact spec_l8Line.mono _ _ _ _ _ _
   | exact spec_l8Small.mono _ _ _ _
   | exact Zn _
   | refine Zt ?_ ?_
   | refine Zo ?_ (fun _ => ?_)
set_option maxHeartbeats 8000000 in
set_option maxRecDepth 100000 in
theorem spec_DrawIsLine.calls (k : Nat) (A0 : Option Addr) (c0 : Nat) (l0 : List Int) (r1 : Int) (r2 : List (List Int)) (r3 : List Int) (w : World) (hr0 : Kd.C (Kd.int .u8) w A0 l0.length l0) (hc0 : l0.length ≤ c0) (h : spec_DrawIsLine.f k l0 = some (r1, r2, r3)) :
  Calls Try.prog 86 #[.slice A0 l0.length c0] w fun e w' => ∃ v1_ v2_ : Value, e = .returned (.tuple #[.agg #[.int .i64 r1, v1_], v2_]) ∧ Kd.S (Kd.slice 3 (Kd.int .i64)) 31 w' w.heap.size (fun k_ => some k_ ≠ (v2_ : Value).ownBlock) v1_ r2 ∧ Kd.R (Kd.int .i64) 3 w' w.heap.size (fun _ => True) v2_ r3 ∧ Below w.heap.size w w' := by
 have hu27 := Try.underlying27
 have HR0 := Aside0.mk hr0
 have HC0 := Aside0.mk hc0
 clear hr0 hc0
 have HB := Aside0.mk (Below.refl w.heap.size w)
 have H : ((spec_l1New.f k l0).bind fun bt448 => ((spec_l8Small.f k bt448.1 bt448.2.1 bt448.2.2).bind fun bt452 => ((spec_l8Line.f k bt448.1 bt452.2.2.1 bt452.2.2.2 bt452.1 bt452.2.1).bind fun bt459 => (some (bt452.1, bt452.2.1, bt459.1))))) = some (r1, r2, r3) := h
 clear h
 replace H := Option.bind_eq_some_iff.mp H
 obtain ⟨⟨t448, t449, t450⟩, A20, H⟩ := H
 replace H : ((spec_l8Small.f k t448 t449 t450).bind fun bt452 => ((spec_l8Line.f k t448 bt452.2.2.1 bt452.2.2.2 bt452.1 bt452.2.1).bind fun bt459 => (some (bt452.1, bt452.2.1, bt459.1)))) = some (r1, r2, r3) := H
 have A2 := Aside0.mk A20
 clear A20
 replace H := Option.bind_eq_some_iff.mp H
 obtain ⟨⟨t452, t453, t456, t457⟩, A30, H⟩ := H
 replace H : ((spec_l8Line.f k t448 t456 t457 t452 t453).bind fun bt459 => (some (t452, t453, bt459.1))) = some (r1, r2, r3) := H
 have A3 := Aside0.mk A30
 clear A30
 replace H := Option.bind_eq_some_iff.mp H
 obtain ⟨⟨t459, t462, t463⟩, A40, H⟩ := H
 replace H : (some (t452, t453, t459)) = some (r1, r2, r3) := H
 have A4 := Aside0.mk A40
 clear A40
 simp only [Option.some.injEq, Prod.mk.injEq] at H
 obtain ⟨rfl, rfl, rfl⟩ := H
 go_enter Try.func86, Try.ntmps86
 try go_wp2_with (first | ((with_reducible refine ZD (N := 2) rfl ?_); refine ZH ?hg (N := 2) ?hd (cs := #[.int .i64 0, .slice none 0 0]) (t := 27) ?hr ?_; (case hd => rfl); (case hg => rfl); (case hr => first | (go_simp; done) | (go_simp; rfl)); intro gb447 hg w5 hbox hb; have BK447 := Aside0.mk (hbox); have GW447 := Aside0.mk ((hz_ hg : w.heap.size ≤ gb447)); have GE447 := Aside0.mk ((hz_ hg : w.heap.size ≤ gb447)); replace HB := Aside0.mk (Ze hB_ hb); clear hb hbox hg) | ((with_reducible refine Zj (f := 82) rfl ?_); refine ZE (some 7) rfl rfl Try.func82 (by kernel_rfl) rfl #[.slice A0 l0.length c0] rfl ar_ ?_; (with_reducible refine (spec_l1New.calls k _ _ l0 t448 t449 t450 w _ ?side1 ?side2 ?side3 A2.out).mono ?_); (case side1 => repeat (first | (with_reducible first | exact HB.out | apply Zq | apply Zm | apply Zi | refine Zh ?_ GE447.out) | exact HB.out)); (case side2 => exact HR0.out); (case side3 => exact HC0.out); rintro e w6 ⟨g451, rfl, hi, hb, hb2⟩; refine ⟨_, rfl, ?_⟩; replace HB := Aside0.mk (hb); have HI451 := Aside0.mk (hi); have NB451_447 := Aside0.mk (IsS93.ne_blk hi (Zc (g := gb447) (o := .cells #[.int .i64 0, .slice none 0 0] 27 (0, 0)) (bk_ BK447.out) hb2) (by decide)); have NB447_451 := Aside0.mk (Ne.symm (IsS93.ne_blk hi (Zc (g := gb447) (o := .cells #[.int .i64 0, .slice none 0 0] 27 (0, 0)) (bk_ BK447.out) hb2) (by decide))); replace BK447 := Aside0.mk (Zc (g := gb447) (o := .cells #[.int .i64 0, .slice none 0 0] 27 (0, 0)) (bk_ BK447.out) hb2); (try clear hb); (try clear hb2); (try clear hk); (try clear hi)) | ((with_reducible refine Zj (f := 83) rfl ?_); refine ZE (some 9) rfl rfl Try.func83 (by kernel_rfl) rfl #[.pointer (some ⟨g451, 0, none⟩)] rfl ar_ ?_; (with_reducible refine (spec_l8Small.calls k g451 t448 t449 t450 t452 t453 t456 t457 w _ ?side1 ?side2 A3.out).mono ?_); (case side1 => repeat (first | (with_reducible first | exact HI451.out | apply IsS93.alloc | apply IsS93.drewN | apply IsS93.drew | apply IsS93.set_1 | apply IsS93.set_2 | refine IsS93.far ?_ NB451_447.out _) | exact HI451.out)); (case side2 => repeat (first | (with_reducible first | exact HB.out | apply Zq | apply Zm | apply Zi | refine Zh ?_ (IsS93.ge HI451.out) | refine Zh ?_ GE447.out) | exact HB.out)); rintro e w7 ⟨v454, rfl, ho0, hi, hb, hk⟩; refine ⟨_, rfl, ?_⟩; replace BK447 := Aside0.mk (KeepBut.blk hk (g' := gb447) (o := .cells #[.int .i64 0, .slice none 0 0] 27 (0, 0)) (bk_ BK447.out) NB447_451.out (by simp)); have HO455 := Aside0.mk (Kd.S_lower ho0 (Zl (by repeat (first | (with_reducible first | exact HB.out | apply Zq | apply Zm | apply Zi | refine Zh ?_ (IsS93.ge HI451.out) | refine Zh ?_ GE447.out) | exact HB.out)))); replace HB := Aside0.mk (hb); replace HI451 := Aside0.mk (hi); (try clear hb); (try clear hb2); (try clear hk); (try clear hi); (try clear ho0)) | ((with_reducible refine ZD (N := 5) rfl ?_); refine ZH ?hg (N := 5) ?hd (cs := #[.int .i64 0, .slice none 0 0]) (t := 27) ?hr ?_; (case hd => rfl); (case hg => rfl); (case hr => first | (go_simp; done) | (go_simp; rfl)); intro gb458 hg w8 hbox hb; replace HO455 := Aside0.mk (Zk (rS_ HO455.out) hb); have BK458 := Aside0.mk (hbox); have GW458 := Aside0.mk ((by rw [hg]; exact (Zl (by repeat (first | (with_reducible first | exact HB.out | apply Zq | apply Zm | apply Zi | refine Zh ?_ (IsS93.ge HI451.out) | refine Zh ?_ GE447.out) | exact HB.out))) : w.heap.size ≤ gb458)); have GE458 := Aside0.mk ((by rw [hg]; exact (Zl (by repeat (first | (with_reducible first | exact HB.out | apply Zq | apply Zm | apply Zi | refine Zh ?_ (IsS93.ge HI451.out) | refine Zh ?_ GE447.out) | exact HB.out))) : w.heap.size ≤ gb458)); replace HB := Aside0.mk (Ze (by repeat (first | (with_reducible first | exact HB.out | apply Zq | apply Zm | apply Zi | refine Zh ?_ (IsS93.ge HI451.out) | refine Zh ?_ GE447.out) | exact HB.out)) hb); have NB447_458 := Aside0.mk ((by rw [hg]; exact Nat.ne_of_lt (blk_lt (g := gb447) (o := .cells #[.int .i64 0, .slice none 0 0] 27 (0, 0)) (bk_ BK447.out)) : gb447 ≠ gb458)); have NB458_447 := Aside0.mk ((by rw [hg]; exact Nat.ne_of_gt (blk_lt (g := gb447) (o := .cells #[.int .i64 0, .slice none 0 0] 27 (0, 0)) (bk_ BK447.out)) : gb458 ≠ gb447)); replace BK447 := Aside0.mk (Zc (g := gb447) (o := .cells #[.int .i64 0, .slice none 0 0] 27 (0, 0)) (bk_ BK447.out) hb); have NB451_458 := Aside0.mk ((by rw [hg]; exact Nat.ne_of_lt (IsS93.lt (show IsS93 w _ g451 t448 t456 t457 from by repeat (first | (with_reducible first | exact HI451.out | apply IsS93.alloc | apply IsS93.drewN | apply IsS93.drew | apply IsS93.set_1 | apply IsS93.set_2 | refine IsS93.far ?_ NB451_447.out _) | exact HI451.out))) : g451 ≠ gb458)); have NB458_451 := Aside0.mk ((by rw [hg]; exact Nat.ne_of_gt (IsS93.lt (show IsS93 w _ g451 t448 t456 t457 from by repeat (first | (with_reducible first | exact HI451.out | apply IsS93.alloc | apply IsS93.drewN | apply IsS93.drew | apply IsS93.set_1 | apply IsS93.set_2 | refine IsS93.far ?_ NB451_447.out _) | exact HI451.out))) : gb458 ≠ g451)); replace HI451 := Aside0.mk (IsS93.below (by repeat (first | (with_reducible first | exact HI451.out | apply IsS93.alloc | apply IsS93.drewN | apply IsS93.drew | apply IsS93.set_1 | apply IsS93.set_2 | refine IsS93.far ?_ NB451_447.out _) | exact HI451.out)) hb); clear hb hbox hg; have hnb9 := NB458_447.out; have hnc9 := NB447_458.out; have hnb10 := NB458_451.out; have hnc10 := NB451_458.out; have hcz11_0 : w8.cell? ⟨gb458, 0, none⟩ = some (.int .i64 0) := (Za BK458.out 0).trans rfl; have hcz11_1 : w8.cell? ⟨gb458, 1, none⟩ = some (.slice none 0 0) := (Za BK458.out 1).trans rfl; have hfz11_0 := Zb BK458.out 0; have hfz11_1 := Zb BK458.out 1; obtain ⟨Ao12, co12, eo12⟩ := Kd.S_slice HO455.out; subst eo12))
 have n0_ : Aside0 (Kd.S (Kd.slice 3 (Kd.int .i64)) 31 ((w8.setCell ⟨gb458, 0, none⟩ (.int .i64 t452)).setCell ⟨gb458, 1, none⟩ (.slice Ao12 t453.length co12)) w.heap.size (fun _ => True) (.slice Ao12 t453.length co12) t453) := ⟨by (with_reducible repeat (first | apply Zy | apply Zx | apply Zr)); exact Zs (Zw (p := ⟨gb458, 1, none⟩) (Zw (p := ⟨gb458, 0, none⟩) (ZC HO455.out BK458.out (by decide)) (fun _ hk => hk.2) (.int .i64 t452)) (fun _ hk => hk.2) (.slice Ao12 t453.length co12)) (fun _ hk => trivial)⟩
 have n1_ : Aside0 (((w8.setCell ⟨gb458, 0, none⟩ (.int .i64 t452)).setCell ⟨gb458, 1, none⟩ (.slice Ao12 t453.length co12)).heap[gb447]? = some (.cells #[.int .i64 0, .slice none 0 0] 27 (0, 0))) := ⟨by (with_reducible repeat (first | refine Zg ?_ _ | refine Zd ?_ | refine Zf ?_ _)); refine ZK ?_ NB447_458.out _; (with_reducible repeat (first | refine Zg ?_ _ | refine Zd ?_ | refine Zf ?_ _)); refine ZK ?_ NB447_458.out _; (with_reducible repeat (first | refine Zg ?_ _ | refine Zd ?_ | refine Zf ?_ _)); exact BK447.out⟩
 have n2_ : Aside0 (((w8.setCell ⟨gb458, 0, none⟩ (.int .i64 t452)).setCell ⟨gb458, 1, none⟩ (.slice Ao12 t453.length co12)).heap[gb458]? = some (.cells #[.int .i64 t452, .slice Ao12 t453.length co12] 27 (0, 0))) := ⟨by (with_reducible repeat (first | refine Zg ?_ _ | refine Zd ?_ | refine Zf ?_ _)); refine ZT (cs := #[.int .i64 t452, .slice none 0 0]) ?_ 1 _ rfl; (with_reducible repeat (first | refine Zg ?_ _ | refine Zd ?_ | refine Zf ?_ _)); refine ZT (cs := #[.int .i64 0, .slice none 0 0]) ?_ 0 _ rfl; (with_reducible repeat (first | refine Zg ?_ _ | refine Zd ?_ | refine Zf ?_ _)); exact BK458.out⟩
 have n3_ : Aside0 (IsS93 w ((w8.setCell ⟨gb458, 0, none⟩ (.int .i64 t452)).setCell ⟨gb458, 1, none⟩ (.slice Ao12 t453.length co12)) g451 t448 t456 t457) := ⟨by repeat (first | (with_reducible first | exact HI451.out | apply IsS93.alloc | apply IsS93.drewN | apply IsS93.drew | apply IsS93.set_1 | apply IsS93.set_2 | refine IsS93.far ?_ NB451_447.out _ | refine IsS93.far ?_ NB451_458.out _) | exact HI451.out)⟩
 have n4_ : Aside0 (Below w.heap.size w ((w8.setCell ⟨gb458, 0, none⟩ (.int .i64 t452)).setCell ⟨gb458, 1, none⟩ (.slice Ao12 t453.length co12))) := ⟨by repeat (first | (with_reducible first | exact HB.out | apply Zq | apply Zm | apply Zi | refine Zh ?_ (IsS93.ge HI451.out) | refine Zh ?_ GE447.out | refine Zh ?_ GE458.out) | exact HB.out)⟩
 (try clear HO455)
 (try clear BK447)
 (try clear BK458)
 (try clear HI451)
 (try clear HB)
 generalize ((w8.setCell ⟨gb458, 0, none⟩ (.int .i64 t452)).setCell ⟨gb458, 1, none⟩ (.slice Ao12 t453.length co12)) = w13 at n0_ n1_ n2_ n3_ n4_ ⊢
 have HO455 := n0_
 have BK447 := n1_
 have BK458 := n2_
 have HI451 := n3_
 have HB := n4_
 clear n0_ n1_ n2_ n3_ n4_
 replace HO455 := Aside0.mk (Zr HO455.out)
 replace BK447 := Aside0.mk (Zd BK447.out)
 replace BK458 := Aside0.mk (Zd BK458.out)
 replace HI451 := Aside0.mk (IsS93.drew HI451.out)
 replace HB := Aside0.mk (Zi HB.out)
 refine start_ (n := 6) (S := fun w' => w'.cell? ⟨gb458, 0, none⟩ = some (.int .i64 t452) ∧ w'.cell? ⟨gb458, 1, none⟩ = some (.slice Ao12 t453.length co12)) (ds := []) #[O,O,O,O,O,O] (by kernel_rfl) rfl rfl ⟨(Za BK458.out 0).trans rfl, (Za BK458.out 1).trans rfl⟩ (fun hHeld => ?_)
 generalize w13.drew = w14 at HO455 BK447 BK458 HI451 HB hHeld ⊢
 refine pu_ 1 11 #[O,Y,O,O,O,O] ?_
 refine tk2_ 0 10 #[Y,Y,O,O,O,O] hHeld ?_
 refine tk2_ 2 12 #[Y,Y,Y,O,O,O] hHeld ?_
 refine on_ 3 13 #[Y,Y,Y,Y,O,O] (fun K hK => ?_)
 refine goes_ Try.func118 (by kernel_rfl) rfl #[.pointer (some ⟨g451, 0, none⟩), .agg #[.int .i64 t452, .slice Ao12 t453.length co12]] (by rfl) rfl rfl ar_ ?_
 with_reducible refine (spec_l8Line.calls k g451 t448 t456 t457 t452 _ _ t453 t459 t462 t463 w _ ?side1 ?side2 ?side3 ?side4 A4.out).mono ?_
 (case side1 => repeat (first | (with_reducible first | exact HI451.out | apply IsS93.alloc | apply IsS93.drewN | apply IsS93.drew | apply IsS93.set_1 | apply IsS93.set_2 | refine IsS93.far ?_ NB451_447.out _ | refine IsS93.far ?_ NB451_458.out _) | exact HI451.out))
 (case side2 => repeat (first | (with_reducible first | exact HB.out | apply Zq | apply Zm | apply Zi | refine Zh ?_ (IsS93.ge HI451.out) | refine Zh ?_ GE447.out | refine Zh ?_ GE458.out) | exact HB.out))
 (case side3 => exact Kd.C_foot_own ((Kd.S_R (IsS93.apartS (show IsS93 w _ g451 t448 t456 t457 from by repeat (first | (with_reducible first | exact HI451.out | apply IsS93.alloc | apply IsS93.drewN | apply IsS93.drew | apply IsS93.set_1 | apply IsS93.set_2 | refine IsS93.far ?_ NB451_447.out _ | refine IsS93.far ?_ NB451_458.out _) | exact HI451.out)) (rS_ HO455.out) (by decide)))) (fun _ h_ => h_.2))
 (case side4 => exact (Zu HO455.out).2.1)
 rintro e w15 ⟨v460, rfl, ho0, hi, hb, hk⟩
 refine ⟨_, rfl, ?_⟩
 replace BK447 := Aside0.mk (KeepBut.blk hk (g' := gb447) (o := .cells #[.int .i64 0, .slice none 0 0] 27 (0, 0)) (bk_ BK447.out) NB447_451.out (by simp))
 replace HO455 := Aside0.mk (Zs (Kd.S_told (Kd.S_oldK (IsS93.apartS (show IsS93 w _ g451 t448 t456 t457 from by repeat (first | (with_reducible first | exact HI451.out | apply IsS93.alloc | apply IsS93.drewN | apply IsS93.drew | apply IsS93.set_1 | apply IsS93.set_2 | refine IsS93.far ?_ NB451_447.out _ | refine IsS93.far ?_ NB451_458.out _) | exact HI451.out)) (rS_ HO455.out) (by decide)) hk) (ZS ho0)) (fun _ h_ => h_.1))
 replace BK458 := Aside0.mk (KeepBut.blk hk (g' := gb458) (o := .cells #[.int .i64 t452, .slice Ao12 t453.length co12] 27 (0, 0)) (bk_ BK458.out) NB458_451.out (by simp))
 have HO461 := Aside0.mk (ZI ho0 (Zl (by repeat (first | (with_reducible first | exact HB.out | apply Zq | apply Zm | apply Zi | refine Zh ?_ (IsS93.ge HI451.out) | refine Zh ?_ GE447.out | refine Zh ?_ GE458.out) | exact HB.out))))
 replace HB := Aside0.mk (hb)
 replace HI451 := Aside0.mk (hi)
 (try clear hb)
 (try clear hb2)
 (try clear hk)
 (try clear hi)
 (try clear ho0)
 refine hK.out _ _ ⟨(Za BK458.out 0).trans rfl, (Za BK458.out 1).trans rfl⟩ (fun hHeld => ?_)
 clear hK K
 refine no_ 13 ?_
 refine one_ (i := 4) (N := none) #[Y,Y,Y,Y,Y,O] rfl rfl (by kernel_rfl) (by decide) (fun K hK => ?_)
 have hs16 : w15.cell? ⟨gb447, 0, none⟩ = some (.int .i64 0) := (Za BK447.out 0).trans rfl
 have hfs16 := Zb BK447.out 0
 have hns16_1 := NB458_447.out
 have hms16_1 := NB447_458.out
 have hs17 : w15.cell? ⟨gb447, 1, none⟩ = some (.slice none 0 0) := (Za BK447.out 1).trans rfl
 have hfs17 := Zb BK447.out 1
 have hns17_1 := NB458_447.out
 have hms17_1 := NB447_458.out
 refine skip_ (w1 := ?_) (by rfl) rfl ?_ ?_
 rotate_left
 ·go_simp
  rfl
 refine hK.out _ _ ⟨((cell_far (p := ⟨gb447, _, none⟩) NB458_447.out _).trans (((cell_far (p := ⟨gb447, _, none⟩) NB458_447.out _).trans (hHeld.1)))), ((cell_far (p := ⟨gb447, _, none⟩) NB458_447.out _).trans (((cell_far (p := ⟨gb447, _, none⟩) NB458_447.out _).trans (hHeld.2))))⟩ (fun hHeld => ?_)
 clear hK K
 refine pu_ 5 3 #[Y,Y,Y,Y,Y,Y] ?_
 refine done_ (by kernel_rfl) ?_
 try go_wp2
 refine bodyPost_ret (results_ct rfl _ _ gb447 27 #[.int .i64 t452, .slice Ao12 t453.length co12] (0, 0) _ rfl (by (with_reducible repeat (first | refine Zg ?_ _ | refine Zd ?_ | refine Zf ?_ _)); refine ZT (cs := #[.int .i64 t452, .slice none 0 0]) ?_ 1 _ rfl; (with_reducible repeat (first | refine Zg ?_ _ | refine Zd ?_ | refine Zf ?_ _)); refine ZT (cs := #[.int .i64 0, .slice none 0 0]) ?_ 0 _ rfl; (with_reducible repeat (first | refine Zg ?_ _ | refine Zd ?_ | refine Zf ?_ _)); exact BK447.out) Try.underlying27 rfl (by kernel_rfl)) rfl ?_
 exact ⟨_, _, er_, by (with_reducible repeat (first | apply Zy | apply Zx | apply Zr)); exact Zs (Zw (p := ⟨gb447, 1, none⟩) (Zw (p := ⟨gb447, 0, none⟩) (ZC HO455.out BK447.out (by decide)) (fun _ hk => hk.2) (.int .i64 t452)) (fun _ hk => hk.2) (.slice Ao12 t453.length co12)) (fun _ hk => hk.1.2), by (with_reducible repeat (first | apply Kd.R_alloc | apply Kd.R_drewN | apply ZR)); exact Zz (Kd.R_far (p := ⟨gb447, 1, none⟩) (Kd.R_far (p := ⟨gb447, 0, none⟩) (Kd.R_types HO461.out BK447.out (by decide)) (fun _ hk => hk.2) (.int .i64 t452)) (fun _ hk => hk.2) (.slice Ao12 t453.length co12)) (fun _ hk => trivial), by repeat (first | (with_reducible first | exact HB.out | apply Zq | apply Zm | apply Zi | refine Zh ?_ (IsS93.ge HI451.out) | refine Zh ?_ GE447.out | refine Zh ?_ GE458.out) | exact HB.out)⟩

/-! ### spec_DrawWinnerOf: function 36 -/
def spec_DrawWinnerOf.f (k : Nat) (l0 : List Int) : Option (Int × (List (List Int)) × List Int) := (spec_DrawIsLine.f k l0).bind fun bt465 => (some (bt465.1, bt465.2.1, bt465.2.2))
theorem spec_DrawWinnerOf.mono : ∀ a0 k, LeO (spec_DrawWinnerOf.f k a0) (spec_DrawWinnerOf.f (k + 1) a0) := by
 intro a0 k
 unfold spec_DrawWinnerOf.f
 repeat' first
   | (with_reducible exact spec_DrawIsLine.mono _ _)
   | (with_reducible exact ZJ _)
   | (with_reducible exact Zn _)
   | (with_reducible refine Zt ?_ ?_)
   | (with_reducible refine Zo ?_ (fun _ => ?_))
   | exact spec_DrawIsLine.mono _ _
   | exact Zn _
   | refine Zt ?_ ?_
   | refine Zo ?_ (fun _ => ?_)
set_option maxHeartbeats 8000000 in
set_option maxRecDepth 100000 in
theorem spec_DrawWinnerOf.calls (k : Nat) (A0 : Option Addr) (c0 : Nat) (l0 : List Int) (r1 : Int) (r2 : List (List Int)) (r3 : List Int) (w : World) (hr0 : Kd.C (Kd.int .u8) w A0 l0.length l0) (hc0 : l0.length ≤ c0) (h : spec_DrawWinnerOf.f k l0 = some (r1, r2, r3)) :
  Calls Try.prog 36 #[.slice A0 l0.length c0] w fun e w' => ∃ v1_ v2_ : Value, e = .returned (.tuple #[.agg #[.int .i64 r1, v1_], v2_]) ∧ Kd.S (Kd.slice 3 (Kd.int .i64)) 31 w' w.heap.size (fun k_ => some k_ ≠ (v2_ : Value).ownBlock) v1_ r2 ∧ Kd.R (Kd.int .i64) 3 w' w.heap.size (fun _ => True) v2_ r3 ∧ Below w.heap.size w w' := by
 have hu27 := Try.underlying27
 have HR0 := Aside0.mk hr0
 have HC0 := Aside0.mk hc0
 clear hr0 hc0
 have HB := Aside0.mk (Below.refl w.heap.size w)
 have H : ((spec_DrawIsLine.f k l0).bind fun bt465 => (some (bt465.1, bt465.2.1, bt465.2.2))) = some (r1, r2, r3) := h
 clear h
 replace H := Option.bind_eq_some_iff.mp H
 obtain ⟨⟨t465, t466, t469⟩, A20, H⟩ := H
 replace H : (some (t465, t466, t469)) = some (r1, r2, r3) := H
 have A2 := Aside0.mk A20
 clear A20
 simp only [Option.some.injEq, Prod.mk.injEq] at H
 obtain ⟨rfl, rfl, rfl⟩ := H
 go_enter Try.func36, Try.ntmps36
 go_wp2_with (first | ((with_reducible refine ZD (N := 2) rfl ?_); refine ZH ?hg (N := 2) ?hd (cs := #[.int .i64 0, .slice none 0 0]) (t := 27) ?hr ?_; (case hd => rfl); (case hg => rfl); (case hr => first | (go_simp; done) | (go_simp; rfl)); intro gb464 hg w3 hbox hb; have BK464 := Aside0.mk (hbox); have GW464 := Aside0.mk ((hz_ hg : w.heap.size ≤ gb464)); have GE464 := Aside0.mk ((hz_ hg : w.heap.size ≤ gb464)); replace HB := Aside0.mk (Ze hB_ hb); clear hb hbox hg) | ((with_reducible refine Zj (f := 86) rfl ?_); refine ZE (some 5) rfl rfl Try.func86 (by kernel_rfl) rfl #[.slice A0 l0.length c0] rfl ar_ ?_; (with_reducible refine (spec_DrawIsLine.calls k _ _ l0 t465 t466 t469 _ ?side1 ?side2 A2.out).mono ?_); (case side1 => exact cb_ HR0.out); (case side2 => exact HC0.out); rintro e w4 ⟨v467, v470, rfl, ho0, ho1, hb⟩; refine ⟨_, rfl, ?_⟩; have HO468 := Aside0.mk (Kd.S_lower ho0 (Zl hB_)); have HO471 := Aside0.mk (ZI ho1 (Zl hB_)); replace BK464 := Aside0.mk (Zc (g := gb464) (o := .cells #[.int .i64 0, .slice none 0 0] 27 (0, 0)) (bk_ BK464.out) hb); replace HB := Aside0.mk (Ze hB_ hb); (try clear hb); (try clear hb2); (try clear hk); (try clear hi); (try clear ho0); (try clear ho1); have hcz5_0 : w4.cell? ⟨gb464, 0, none⟩ = some (.int .i64 0) := (Za BK464.out 0).trans rfl; have hcz5_1 : w4.cell? ⟨gb464, 1, none⟩ = some (.slice none 0 0) := (Za BK464.out 1).trans rfl; have hfz5_0 := Zb BK464.out 0; have hfz5_1 := Zb BK464.out 1; obtain ⟨Ao6, co6, eo6⟩ := Kd.S_slice HO468.out; subst eo6))
 refine bodyPost_ret (results_ct rfl _ _ gb464 27 #[.int .i64 t465, .slice Ao6 t466.length co6] (0, 0) _ rfl (by (with_reducible repeat (first | refine Zg ?_ _ | refine Zd ?_ | refine Zf ?_ _)); refine ZT (cs := #[.int .i64 t465, .slice none 0 0]) ?_ 1 _ rfl; (with_reducible repeat (first | refine Zg ?_ _ | refine Zd ?_ | refine Zf ?_ _)); refine ZT (cs := #[.int .i64 0, .slice none 0 0]) ?_ 0 _ rfl; (with_reducible repeat (first | refine Zg ?_ _ | refine Zd ?_ | refine Zf ?_ _)); exact BK464.out) Try.underlying27 rfl (by kernel_rfl)) rfl ?_
 exact ⟨_, _, er_, by (with_reducible repeat (first | apply Zy | apply Zx | apply Zr)); exact Zs (Zw (p := ⟨gb464, 1, none⟩) (Zw (p := ⟨gb464, 0, none⟩) (ZC HO468.out BK464.out (by decide)) (fun _ hk => hk.2) (.int .i64 t465)) (fun _ hk => hk.2) (.slice Ao6 t466.length co6)) (fun _ hk => hk.1), by (with_reducible repeat (first | apply Kd.R_alloc | apply Kd.R_drewN | apply ZR)); exact Zz (Kd.R_far (p := ⟨gb464, 1, none⟩) (Kd.R_far (p := ⟨gb464, 0, none⟩) (Kd.R_types HO471.out BK464.out (by decide)) (fun _ hk => hk.2) (.int .i64 t465)) (fun _ hk => hk.2) (.slice Ao6 t466.length co6)) (fun _ hk => trivial), hB_⟩

/-! ### impl_evens: function 87 -/
def impl_evens.l0 : Nat → List Int → List Int → Int → Option (List Int)
 | 0, _, _, _ => none
 | k + 1, x0, x3, x4 => if x4 < (x0.length : Int) then (if 0 ≤ x4 then (if x3.length < 17592186044416 then (impl_evens.l0 k x0 (x3 ++ [rd x0 x4]) (wrap64 (x4 + 2))) else (none)) else (none)) else (some x3)
def impl_evens.f (k : Nat) (l0 : List Int) : Option (List Int) := impl_evens.l0 k l0 (([] : List Int)) 0
theorem impl_evens.mono_l : ∀ k, (∀ y0 y1 y2, LeO (impl_evens.l0 k y0 y1 y2) (impl_evens.l0 (k + 1) y0 y1 y2))
 | 0 => fun _ _ _ r h => by simp [impl_evens.l0] at h
 | k + 1 => by
  have ih0 := impl_evens.mono_l k
  ·intro y0 y1 y2
   unfold impl_evens.l0
   repeat' first
   | (with_reducible exact ih0 _ _ _)
   | (with_reducible exact ZJ _)
   | (with_reducible exact Zn _)
   | (with_reducible refine Zt ?_ ?_)
   | (with_reducible refine Zo ?_ (fun _ => ?_))
   | exact ih0 _ _ _
   | exact Zn _
   | refine Zt ?_ ?_
   | refine Zo ?_ (fun _ => ?_)
theorem impl_evens.mono : ∀ a0 k, LeO (impl_evens.f k a0) (impl_evens.f (k + 1) a0) := by
 intro a0 k
 have ih0 := impl_evens.mono_l k
 unfold impl_evens.f
 repeat' first
   | (with_reducible exact ih0 _ _ _)
   | (with_reducible exact ZJ _)
   | (with_reducible exact Zn _)
   | (with_reducible refine Zt ?_ ?_)
   | (with_reducible refine Zo ?_ (fun _ => ?_))
   | exact ih0 _ _ _
   | exact Zn _
   | refine Zt ?_ ?_
   | refine Zo ?_ (fun _ => ?_)
set_option maxHeartbeats 8000000 in
set_option maxRecDepth 100000 in
theorem impl_evens.calls (k : Nat) (A0 : Option Addr) (c0 : Nat) (l0 : List Int) (r : List Int) (w : World) (hr0 : Kd.C (Kd.int .i64) w A0 l0.length l0) (hc0 : l0.length ≤ c0) (h : impl_evens.f k l0 = some r) :
  Calls Try.prog 87 #[.slice A0 l0.length c0] w fun e w' => ∃ v0_ : Value, e = .returned (v0_) ∧ Kd.R (Kd.int .i64) 3 w' w.heap.size (fun _ => True) v0_ r ∧ Below w.heap.size w w' := by
 have HR0 := Aside0.mk hr0
 have HC0 := Aside0.mk hc0
 clear hr0 hc0
 have HB := Aside0.mk (Below.refl w.heap.size w)
 have H : (impl_evens.l0 k l0 (([] : List Int)) 0) = some r := h
 clear h
 obtain ⟨y472, hy472⟩ : ∃ y_ : List Int, y_ = (([] : List Int)) := ⟨_, rfl⟩
 replace H : (impl_evens.l0 k l0 y472 0) = some r := hy_ hy472 H
 have Ny472 := Aside0.mk hy472
 clear hy472
 have H' := Aside0.mk H
 clear H
 go_enter Try.func87, Try.ntmps87
 go_wp2_with (first | ((with_reducible refine ZD (N := 5) rfl ?_); refine Kd.R_lit (Kd.int .i64) _ 3 ?hg (N := 5) ?hd (xs := ([] : List Int)) (inner := []) (ok := fun _ => True) (okp := fun _ => True) ?hr ?hp (fun _ hk => hk) trivial (Below.refl _ _) (Nat.le_refl _) (by simp) ?_; (case hd => rfl); (case hg => rfl); (case hr => first | (go_simp; done) | (go_simp; rfl)); (case hp => exact (Reps.none _ _)); intro v473 w2 ho3 hb hg_ hnew_; clear hg_ hnew_; (first | rw [← Ny472.out] at ho3 | (simp only [Int.reduceToNat] at ho3; rw [← Ny472.out] at ho3)); have HO474 := Aside0.mk (ZI ho3 (Zl hB_)); replace HB := Aside0.mk (Ze hB_ hb); clear hb ho3))
 go_loopg [3, 4] k (fun kq v3 v4 w' => ∃ (x3_1 : List Int) (x4_1 : Int), v4 = .int .i64 x4_1 ∧ Aside0 (impl_evens.l0 kq l0 x3_1 x4_1 = some r) ∧ Aside0 (kq ≤ k) ∧ Aside0 (Kd.R (Kd.int .i64) 3 w' w.heap.size (fun _ => True) v3 x3_1) ∧ Aside0 (Below w.heap.size w w'))
 case atStart => exact ⟨(y472), (0), sm_, H', ⟨Nat.le_refl _⟩, ⟨rR_ HO474.out⟩, ⟨hB_⟩⟩
 case round =>
  clear H'
  try clear p2
  obtain ⟨x3_1, x4_1, rfl, HA, HK1, HO_3, HB⟩ := hrel
  cases gk with
  | zero => exact absurd HA.out (by simp [impl_evens.l0])
  | succ k1 =>
   have H := HA.out
   clear HA
   simp only [impl_evens.l0] at H
   by_cases c4 : x4_1 < (l0.length : Int)
   ·rw [if_pos c4] at H
    have c4b0 : decide (x4_1 < (l0.length : Int)) = true := decide_eq_true c4
    clear c4
    by_cases c5 : 0 ≤ x4_1
    ·rw [if_pos c5] at H
     have c5b0 : decide (0 ≤ x4_1) = true := decide_eq_true c5
     clear c5
     by_cases c6 : x3_1.length < 17592186044416
     ·rw [if_pos c6] at H
      have LMc6 := Aside0.mk c6
      clear c6
      obtain ⟨y476, hy476⟩ : ∃ y_ : List Int, y_ = (x3_1 ++ [rd l0 x4_1]) := ⟨_, rfl⟩
      replace H : (impl_evens.l0 k1 l0 y476 (wrap64 (x4_1 + 2))) = some r := hy_ hy476 H
      have Ny476 := Aside0.mk hy476
      clear hy476
      have H' := Aside0.mk H
      clear H
      have p475 : 0 ≤ (x4_1 : Int) := of_decide_eq_true as_
      have q475 : x4_1 < (l0.length : Int) := of_decide_eq_true as_
      obtain ⟨ad475, e475, hx475_0⟩ := Zv HR0.out x4_1 p475 q475
      cases e475
      replace hx475_0 := (HB.out.cell (World.block_lt_of_cell? w _ hx475_0)).trans hx475_0
      replace p475 := eq_true p475
      replace q475 := eq_true q475
      go_wp2_with (first | ((with_reducible refine gate_builtin (b := .append) (xs := #[.tmp 12, .tmp 17]) rfl ?_); at_builtin; refine Kd.R_append (Kd.int .i64) (w0 := w) w.heap.size rfl (.tmp 12) (.tmp 17) 31 3 (.int .i64 0) 8 rfl Try.underlying31 info3 rfl (by decide) (by omega) u3 x3_1 (rd l0 x4_1) [.int .i64 (rd l0 x4_1)] (fun _ => True) (fun _ => False) rfl rfl ?aP (fun _ hk => hk.elim) ?aF ?aO ?aB ?aS ?aL ?_; (case aP => exact rfl); (case aB => exact hB_); (case aF => exact (fun _ _ => trivial)); (case aO => exact (rR_ HO_3.out)); (case aS => exact (Zl hB_)); (case aL => have := LMc6.out; omega); intro v477 w7 ho hb hg hat; rw [← Ny476.out] at ho; have n0_ := Aside0.mk (hb); have n1_ := Aside0.mk (ho); clear HB; clear HO_3; have HB := n0_; have HO478 := n1_; clear n0_ n1_; clear ho hb hg hat))
      go_roundg k1
      case measure => have := HK1.out; omega
      case rel => exact ⟨(y476), (wrap64 (x4_1 + 2)), sm_, H', ⟨by have := HK1.out; omega⟩, ⟨rR_ HO478.out⟩, ⟨hB_⟩⟩
     ·rw [if_neg c6] at H
      exact absurd H (by simp)
    ·rw [if_neg c5] at H
     exact absurd H (by simp)
   ·rw [if_neg c4] at H
    have c4b0 : decide (x4_1 < (l0.length : Int)) = false := decide_eq_false c4
    clear c4
    obtain rfl := Option.some.inj H
    go_wp2
    go_ret
    exact ⟨_, er_, rR_ HO_3.out, hB_⟩

/-! ### impl_DoesAttack: function 88 -/
def impl_DoesAttack.f (k : Nat) (a0_0 : Int) (l0_1 : List (List Int)) (a1 : Int) (a2 : Int) : Option (Bool) := (impl_VictimsOf.f k a0_0 l0_1 a1).bind fun t480 => ((slices_Contains_int_int.f k t480 a2).bind fun t483 => (some t483))
theorem impl_DoesAttack.mono : ∀ a0 a1 a2 a3 k, LeO (impl_DoesAttack.f k a0 a1 a2 a3) (impl_DoesAttack.f (k + 1) a0 a1 a2 a3) := by
 intro a0 a1 a2 a3 k
 unfold impl_DoesAttack.f
 repeat' first
   | (with_reducible exact impl_VictimsOf.mono _ _ _ _)
   | (with_reducible exact slices_Contains_int_int.mono _ _ _)
   | (with_reducible exact ZJ _)
   | (with_reducible exact Zn _)
   | (with_reducible refine Zt ?_ ?_)
   | (with_reducible refine Zo ?_ (fun _ => ?_))
   | exact impl_VictimsOf.mono _ _ _ _
   | exact slices_Contains_int_int.mono _ _ _
   | exact Zn _
   | refine Zt ?_ ?_
   | refine Zo ?_ (fun _ => ?_)
set_option maxHeartbeats 8000000 in
set_option maxRecDepth 100000 in
theorem impl_DoesAttack.calls (k : Nat) (a0_0 : Int) (A0_1 : Option Addr) (c0_1 : Nat) (l0_1 : List (List Int)) (a1 : Int) (a2 : Int) (r : Bool) (w : World) (hr0_1 : Kd.C (Kd.slice 3 (Kd.int .i64)) w A0_1 l0_1.length l0_1) (hc0_1 : l0_1.length ≤ c0_1) (h : impl_DoesAttack.f k a0_0 l0_1 a1 a2 = some r) :
  Calls Try.prog 88 #[.agg #[.int .i64 a0_0, .slice A0_1 l0_1.length c0_1], .int .i64 a1, .int .i64 a2] w fun e w' => e = .returned (.bool r) ∧ Below w.heap.size w w' := by
 have hu27 := Try.underlying27
 have HR0_1 := Aside0.mk hr0_1
 have HC0_1 := Aside0.mk hc0_1
 clear hr0_1 hc0_1
 have HB := Aside0.mk (Below.refl w.heap.size w)
 have H : ((impl_VictimsOf.f k a0_0 l0_1 a1).bind fun t480 => ((slices_Contains_int_int.f k t480 a2).bind fun t483 => (some t483))) = some r := h
 clear h
 replace H := Option.bind_eq_some_iff.mp H
 obtain ⟨t480, A40, H⟩ := H
 replace H : ((slices_Contains_int_int.f k t480 a2).bind fun t483 => (some t483)) = some r := H
 have A4 := Aside0.mk A40
 clear A40
 replace H := Option.bind_eq_some_iff.mp H
 obtain ⟨t483, A50, H⟩ := H
 replace H : (some t483) = some r := H
 have A5 := Aside0.mk A50
 clear A50
 obtain rfl := Option.some.inj H
 go_enter Try.func88, Try.ntmps88
 go_wp2_with (first | ((with_reducible refine ZD (N := 3) rfl ?_); refine ZH ?hg (N := 3) ?hd (cs := #[.int .i64 a0_0, .slice A0_1 l0_1.length c0_1]) (t := 27) ?hr ?_; (case hd => rfl); (case hg => rfl); (case hr => first | (go_simp; done) | (go_simp; rfl)); intro gb479 hg w6 hbox hb; have BK479 := Aside0.mk (hbox); have GW479 := Aside0.mk ((hz_ hg : w.heap.size ≤ gb479)); have GE479 := Aside0.mk ((hz_ hg : w.heap.size ≤ gb479)); replace HB := Aside0.mk (Ze hB_ hb); clear hb hbox hg; have hcz7_0 : w6.cell? ⟨gb479, 0, none⟩ = some (.int .i64 a0_0) := (Za BK479.out 0).trans rfl; have hcz7_1 : w6.cell? ⟨gb479, 1, none⟩ = some (.slice A0_1 l0_1.length c0_1) := (Za BK479.out 1).trans rfl; have hfz7_0 := Zb BK479.out 0; have hfz7_1 := Zb BK479.out 1) | ((with_reducible refine Zj (f := 46) rfl ?_); refine ZE (some 9) rfl rfl Try.func46 (by kernel_rfl) rfl #[.agg #[.int .i64 a0_0, .slice A0_1 l0_1.length c0_1], .int .i64 a1] rfl ar_ ?_; (with_reducible refine (impl_VictimsOf.calls k a0_0 _ _ l0_1 a1 t480 _ ?side1 ?side2 A4.out).mono ?_); (case side1 => exact cb_ HR0_1.out); (case side2 => exact HC0_1.out); rintro e w8 ⟨v481, rfl, ho0, hb⟩; refine ⟨_, rfl, ?_⟩; have HO482 := Aside0.mk (ZI ho0 (Zl hB_)); replace BK479 := Aside0.mk (Zc (g := gb479) (o := .cells #[.int .i64 a0_0, .slice A0_1 l0_1.length c0_1] 27 (0, 0)) (bk_ BK479.out) hb); replace HB := Aside0.mk (Ze hB_ hb); (try clear hb); (try clear hb2); (try clear hk); (try clear hi); (try clear ho0); obtain ⟨Ao9, co9, eo9⟩ := ZP HO482.out; subst eo9) | ((with_reducible refine Zj (f := 80) rfl ?_); refine ZE (some 11) rfl rfl Try.func80 (by kernel_rfl) rfl #[.slice Ao9 t480.length co9, .int .i64 a2] rfl ar_ ?_; (with_reducible refine (slices_Contains_int_int.calls k _ _ t480 a2 t483 _ ?side1 ?side2 A5.out).mono ?_); (case side1 => repeat (first | exact (Zp HO482.out).2.2 | (with_reducible refine ZB ?_ _) | (with_reducible refine ZA ?_ _) | (with_reducible refine ZG ?_))); (case side2 => exact (Zp HO482.out).2.1); rintro e w' ⟨rfl, ⟨nd, rfl⟩⟩; refine ⟨_, rfl, ?_⟩))
 go_ret
 exact ⟨er_, hB_⟩

end Go.Proofs.Ytdlobolnajcfnaa.PFnGames
