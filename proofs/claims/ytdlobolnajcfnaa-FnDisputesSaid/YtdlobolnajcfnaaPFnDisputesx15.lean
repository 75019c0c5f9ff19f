-- Written by a program of this session (hooks of mine on the print): Lean checks it.
import Derived.Test.YtdlobolnajcfnaaPFnDisputesx0
import Derived.Test.YtdlobolnajcfnaaPFnDisputesx5
import Derived.Test.YtdlobolnajcfnaaPFnDisputesx6
import Derived.Test.YtdlobolnajcfnaaPFnDisputesx10
namespace Go.Proofs.Ytdlobolnajcfnaa.PFnDisputes
open Go.RowKit Go.Proofs.YtdlobolnajcfnaaW.PrintWords Go.Proofs.YtdlobolnajcfnaaW.PrintLast Go.Proofs.YtdlobolnajcfnaaW.PrintMore
attribute [local go_sem] max2_int min2_int max_two min_two max_three min_three max_four min_four   -- for this text's walks alone
set_option linter.unusedVariables false
set_option linter.unusedSimpArgs false

/-! ### spec_DrawRenamed: function 47 -/
mutual
def spec_DrawRenamed.l0 : Nat → List Int → Int → List Int → Int → Int → Int → List (List Int) → Option (Int × (List (List Int)) × List Int)
 | 0, _, _, _, _, _, _, _ => none
 | k + 1, x6, x7, x498000, x498001, x498002, x505000, x505001 => (spec_Min.f 12 x505000).bind fun t508 => (if x7 < t508 then ((spec_l1Below.f x498000 x498001 x498002 (wrap64 (x7 + 1))).bind fun bt509 => ((some (([] : List Int) : List Int)).bind fun y512 => (if 0 ≤ bt509.1 then (if bt509.1 ≤ (x6.length : Int) then ((some (x6.take (bt509.1 : Int).toNat : List Int)).bind fun y515 => (if y512.length + y515.length < 17592186044416 then ((some (y512 ++ y515 : List Int)).bind fun y519 => ((some (([x7] : List Int) : List Int)).bind fun y522 => (if y519.length + y522.length < 17592186044416 then ((some (y519 ++ y522 : List Int)).bind fun y525 => ((some (x6.drop (bt509.1 : Int).toNat : List Int)).bind fun y528 => (if y525.length + y528.length < 17592186044416 then (spec_DrawRenamed.l0 k (y525 ++ y528) (wrap64 (x7 + 1)) x498000 bt509.2.1 bt509.2.2 x505000 x505001) else (none)))) else (none)))) else (none))) else (none)) else (none)))) else (if (x6.length : Int) > 0 then ((spec_l1Once.f x498000 x498001 x498002 8).bind fun bt535 => (if bt535.1 = true then ((spec_l1Below.f x498000 bt535.2.1 bt535.2.2 7).bind fun bt538 => (if 0 < (x6.length : Int) then (spec_DrawRenamed.j1 k (x6.set (0 : Int).toNat bt538.1) x505000 x505001) else (none))) else (spec_DrawRenamed.j1 k x6 x505000 x505001))) else (some (x505000, x505001, x6))))
def spec_DrawRenamed.j1 : Nat → List Int → Int → List (List Int) → Option (Int × (List (List Int)) × List Int)
 | 0, _, _, _ => none
 | k + 1, x6, x505000, x505001 => some (x505000, x505001, x6)
end
def spec_DrawRenamed.f (k : Nat) (l0 : List Int) : Option (Int × (List (List Int)) × List Int) := (spec_l1New.f k l0).bind fun bt494 => ((spec_l4Any.f k bt494.1 bt494.2.1 bt494.2.2).bind fun bt498 => (spec_DrawRenamed.l0 k (([] : List Int)) 0 bt494.1 bt498.2.2.1 bt498.2.2.2 bt498.1 bt498.2.1))
theorem spec_DrawRenamed.mono_l : ∀ k, (∀ y0 y1 y2 y3 y4 y5 y6, LeO (spec_DrawRenamed.l0 k y0 y1 y2 y3 y4 y5 y6) (spec_DrawRenamed.l0 (k + 1) y0 y1 y2 y3 y4 y5 y6)) ∧ (∀ y0 y1 y2, LeO (spec_DrawRenamed.j1 k y0 y1 y2) (spec_DrawRenamed.j1 (k + 1) y0 y1 y2))
 | 0 => ⟨fun _ _ _ _ _ _ _ r h => by simp [spec_DrawRenamed.l0] at h, fun _ _ _ r h => by simp [spec_DrawRenamed.j1] at h⟩
 | k + 1 => by
  obtain ⟨ih0, ih1⟩ := spec_DrawRenamed.mono_l k
  refine ⟨?_, ?_⟩
  ·intro y0 y1 y2 y3 y4 y5 y6
   unfold spec_DrawRenamed.l0
   repeat' with_reducible first | apply ih0 | apply ih1 | apply spec_l1New.mono | apply spec_l4Any.mono | apply ZJ | apply Zn | refine Zu ?_ ?_ | refine Zo ?_ (fun _ => ?_)
  ·intro y0 y1 y2
   unfold spec_DrawRenamed.j1
   repeat' with_reducible first | apply ih0 | apply ih1 | apply spec_l1New.mono | apply spec_l4Any.mono | apply ZJ | apply Zn | refine Zu ?_ ?_ | refine Zo ?_ (fun _ => ?_)
theorem spec_DrawRenamed.mono : ∀ a0 k, LeO (spec_DrawRenamed.f k a0) (spec_DrawRenamed.f (k + 1) a0) := by
 intro a0 k
 obtain ⟨ih0, ih1⟩ := spec_DrawRenamed.mono_l k
 unfold spec_DrawRenamed.f
 repeat' with_reducible first | apply ih0 | apply ih1 | apply spec_l1New.mono | apply spec_l4Any.mono | apply ZJ | apply Zn | refine Zu ?_ ?_ | refine Zo ?_ (fun _ => ?_)
def spec_DrawRenamed.T8 : Bool × List (List Nat × List Nat) := (true, [([], []), ([], []), ([], []), ([1, 2], [1, 2]), ([0, 3], [0, 3]), ([], []), ([5], [5]), ([4, 6, 4], [4, 6]), ([], []), ([], []), ([8, 9], [8, 9]), ([7, 10, 7], [7, 10]), ([11, 11, 0, 1, 2, 3, 4, 5, 6, 7, 8, 9, 10, 11], [1, 8, 11])])
def spec_DrawRenamed.B8 : List Nat := [0, 0, 0, 6, 15, 0, 32, 127, 0, 0, 768, 2047, 4095]
theorem spec_DrawRenamed.tab8 : rtab .any (opsOf Try.f47 8) = spec_DrawRenamed.T8 := by kernel_rfl
theorem spec_DrawRenamed.bits8 : waitsOk spec_DrawRenamed.T8.2 spec_DrawRenamed.B8 = true := by kernel_rfl
set_option maxHeartbeats 8000000 in
set_option maxRecDepth 100000 in
theorem spec_DrawRenamed.calls (k : Nat) (A0 : Option Addr) (c0 : Nat) (l0 : List Int) (r1 : Int) (r2 : List (List Int)) (r3 : List Int) (w : World) (hr0 : Kd.C (Kd.int .u8) w A0 l0.length l0) (hc0 : l0.length ≤ c0) (h : spec_DrawRenamed.f k l0 = some (r1, r2, r3)) :
  Calls Try.prog 47 #[.slice A0 l0.length c0] w fun e w' => ∃ v1_ v2_ : Value, e = .returned (.tuple #[.agg #[.int .i64 r1, v1_], v2_]) ∧ Kd.S (Kd.slice 3 (Kd.int .i64)) 31 w' w.heap.size (fun k_ => some k_ ≠ (v2_ : Value).ownBlock) v1_ r2 ∧ Kd.R (Kd.int .i64) 3 w' w.heap.size (fun _ => True) v2_ r3 ∧ Below w.heap.size w w' := by
 have hu27 := Try.underlying27
 have HR0 := Aside0.mk hr0
 have HC0 := Aside0.mk hc0
 clear hr0 hc0
 have HB := Aside0.mk (Below.refl w.heap.size w)
 have H := h
 unfold spec_DrawRenamed.f at H
 clear h
 obtain ⟨⟨t494, t495, t496⟩, A2, H⟩ := bd_ H
 try dsimp only at H
 obtain ⟨⟨t498, t499, t502, t503⟩, A3, H⟩ := bd_ H
 try dsimp only at H
 obtain ⟨y505, hy505⟩ : ∃ y_ : List Int, y_ = (([] : List Int)) := ⟨_, rfl⟩
 replace H : (spec_DrawRenamed.l0 k y505 0 t494 t502 t503 t498 t499) = some (r1, r2, r3) := hy_ hy505 H
 have Ny505 := Aside0.mk hy505
 clear hy505
 have H' := Aside0.mk H
 clear H
 go_enter Try.func47, Try.ntmps47
 go_wp2_with (first | ((with_reducible refine ZA (N := 2) rfl ?_); refine ZC ?hg (N := 2) ?hd (cs := #[.int .i64 0, .slice none 0 0]) (t := 27) ?hr ?_; (case hd => rfl); (case hg => rfl); (case hr => first | (go_simp; done) | (go_simp; rfl)); intro gb493 hg w4 hbox hb; have BK493 := Aside0.mk (hbox); have GW493 := Aside0.mk ((hz_ hg : w.heap.size ≤ gb493)); have GE493 := Aside0.mk ((hz_ hg : w.heap.size ≤ gb493)); replace HB := Aside0.mk (Zh hB_ hb); clear hb hbox hg) | ((with_reducible refine Zl (f := 82) rfl ?_); refine ZI (some 10) rfl rfl Try.func82 (by kernel_rfl) rfl #[.slice A0 l0.length c0] rfl ar_ ?_; (with_reducible refine (spec_l1New.calls k _ _ l0 t494 t495 t496 w _ ?side1 ?side2 ?side3 A2.out).mono ?_); (case side1 => repeat (first | (with_reducible first | exact HB.out | apply Zk | apply Zi | apply Zj | refine Zc ?_ GE493.out) | exact HB.out)); (case side2 => exact HR0.out); (case side3 => exact HC0.out); rintro e w5 ⟨g497, rfl, hi, hb, hb2⟩; refine ⟨_, rfl, ?_⟩; replace HB := Aside0.mk (hb); have HI497 := Aside0.mk (hi); have NB497_493 := Aside0.mk (IsS93.ne_blk hi (Zg (bq_ BK493.out) hb2) (by decide)); have NB493_497 := Aside0.mk (Ne.symm (IsS93.ne_blk hi (Zg (bq_ BK493.out) hb2) (by decide))); replace BK493 := Aside0.mk (Zg (bq_ BK493.out) hb2); (try clear hb); (try clear hb2); (try clear hk); (try clear hi)) | ((with_reducible refine Zl (f := 96) rfl ?_); refine ZI (some 12) rfl rfl Try.func96 (by kernel_rfl) rfl #[.pointer (some ⟨g497, 0, none⟩)] rfl ar_ ?_; (with_reducible refine (spec_l4Any.calls k g497 t494 t495 t496 t498 t499 t502 t503 w _ ?side1 ?side2 A3.out).mono ?_); (case side1 => repeat (first | (with_reducible first | exact HI497.out | apply IsS93.alloc | apply IsS93.drewN | apply IsS93.drew | apply IsS93.set_1 | apply IsS93.set_2 | refine IsS93.far ?_ NB497_493.out _) | exact HI497.out)); (case side2 => repeat (first | (with_reducible first | exact HB.out | apply Zk | apply Zi | apply Zj | refine Zc ?_ (IsS93.ge HI497.out) | refine Zc ?_ GE493.out) | exact HB.out)); rintro e w6 ⟨v500, rfl, ho0, hi, hb, hk⟩; refine ⟨_, rfl, ?_⟩; replace BK493 := Aside0.mk (ZR hk (g' := gb493) (o := .cells #[.int .i64 0, .slice none 0 0] 27 (0, 0)) (bk_ BK493.out) NB493_497.out (by simp)); have HO501 := Aside0.mk (Kd.S_lower ho0 (Zm (by repeat (first | (with_reducible first | exact HB.out | apply Zk | apply Zi | apply Zj | refine Zc ?_ (IsS93.ge HI497.out) | refine Zc ?_ GE493.out) | exact HB.out)))); replace HB := Aside0.mk (hb); replace HI497 := Aside0.mk (hi); (try clear hb); (try clear hb2); (try clear hk); (try clear hi); (try clear ho0)) | ((with_reducible refine ZA (N := 5) rfl ?_); refine ZC ?hg (N := 5) ?hd (cs := #[.int .i64 0, .slice none 0 0]) (t := 27) ?hr ?_; (case hd => rfl); (case hg => rfl); (case hr => first | (go_simp; done) | (go_simp; rfl)); intro gb504 hg w7 hbox hb; replace HO501 := Aside0.mk (Zz (rS_ HO501.out) hb); have BK504 := Aside0.mk (hbox); have GW504 := Aside0.mk ((by rw [hg]; exact (Zm (by repeat (first | (with_reducible first | exact HB.out | apply Zk | apply Zi | apply Zj | refine Zc ?_ (IsS93.ge HI497.out) | refine Zc ?_ GE493.out) | exact HB.out))) : w.heap.size ≤ gb504)); have GE504 := Aside0.mk ((by rw [hg]; exact (Zm (by repeat (first | (with_reducible first | exact HB.out | apply Zk | apply Zi | apply Zj | refine Zc ?_ (IsS93.ge HI497.out) | refine Zc ?_ GE493.out) | exact HB.out))) : w.heap.size ≤ gb504)); replace HB := Aside0.mk (Zh (by repeat (first | (with_reducible first | exact HB.out | apply Zk | apply Zi | apply Zj | refine Zc ?_ (IsS93.ge HI497.out) | refine Zc ?_ GE493.out) | exact HB.out)) hb); have NB493_504 := Aside0.mk ((by rw [hg]; exact Nat.ne_of_lt (ZS (bq_ BK493.out)) : gb493 ≠ gb504)); have NB504_493 := Aside0.mk ((by rw [hg]; exact Nat.ne_of_gt (ZS (bq_ BK493.out)) : gb504 ≠ gb493)); replace BK493 := Aside0.mk (Zg (bq_ BK493.out) hb); have NB497_504 := Aside0.mk ((by rw [hg]; exact Nat.ne_of_lt (IsS93.lt (show IsS93 w _ g497 t494 t502 t503 from by repeat (first | (with_reducible first | exact HI497.out | apply IsS93.alloc | apply IsS93.drewN | apply IsS93.drew | apply IsS93.set_1 | apply IsS93.set_2 | refine IsS93.far ?_ NB497_493.out _) | exact HI497.out))) : g497 ≠ gb504)); have NB504_497 := Aside0.mk ((by rw [hg]; exact Nat.ne_of_gt (IsS93.lt (show IsS93 w _ g497 t494 t502 t503 from by repeat (first | (with_reducible first | exact HI497.out | apply IsS93.alloc | apply IsS93.drewN | apply IsS93.drew | apply IsS93.set_1 | apply IsS93.set_2 | refine IsS93.far ?_ NB497_493.out _) | exact HI497.out))) : gb504 ≠ g497)); replace HI497 := Aside0.mk (IsS93.below (by repeat (first | (with_reducible first | exact HI497.out | apply IsS93.alloc | apply IsS93.drewN | apply IsS93.drew | apply IsS93.set_1 | apply IsS93.set_2 | refine IsS93.far ?_ NB497_493.out _) | exact HI497.out)) hb); clear hb hbox hg; have hnb8 := NB504_493.out; have hnc8 := NB493_504.out; have hnb9 := NB504_497.out; have hnc9 := NB497_504.out; obtain ⟨hcz10_0, hcz10_1, hfz10_0, hfz10_1⟩ := c2_ BK504.out; obtain ⟨Ao11, co11, eo11⟩ := ZN HO501.out; subst eo11) | ((with_reducible refine ZA (N := 13) rfl ?_); refine Kd.R_lit (Kd.int .i64) _ 3 ?hg (N := 13) ?hd (xs := ([] : List Int)) (inner := []) (ok := fun _ => True) (okp := fun _ => True) ?hr ?hp (fun _ hk => hk) trivial (Below.refl _ _) (Nat.le_refl _) (by simp) ?_; (case hd => rfl); (case hg => rfl); (case hr => first | (go_simp; done) | (go_simp; rfl)); (case hp => exact (Reps.none _ _)); intro v506 w12 ho13 hb hg_ hnew_; clear hg_ hnew_; (first | rw [← Ny505.out] at ho13 | (simp only [Int.reduceToNat] at ho13; rw [← Ny505.out] at ho13)); replace HO501 := Aside0.mk (Kd.S_elder' (by (with_reducible repeat (first | apply Zs | apply Zr | apply Zp)); exact (Zt (Zq (p := ⟨gb504, 1, none⟩) (Zq (p := ⟨gb504, 0, none⟩) (Zv HO501.out BK504.out (by decide)) (fun _ hk => hk.2) (.int .i64 t498)) (fun _ hk => hk.2) (.slice Ao11 t499.length co11)) (fun _ h_ => h_.1))) (Kd.R_base ho13) hb); have HO507 := Aside0.mk (Kd.R_lower ho13 (Zm (by repeat (first | (with_reducible first | exact HB.out | apply Zk | apply Zi | apply Zj | refine Zc ?_ (IsS93.ge HI497.out) | refine Zc ?_ GE493.out | refine Zc ?_ GE504.out) | exact HB.out)))); replace BK493 := Aside0.mk (Zg (g := gb493) (o := .cells #[.int .i64 0, .slice none 0 0] 27 (0, 0)) (by (with_reducible repeat (first | refine Ze ?_ _ | refine Zf ?_ | refine Zd ?_ _)); refine ZG ?_ NB493_504.out _; (with_reducible repeat (first | refine Ze ?_ _ | refine Zf ?_ | refine Zd ?_ _)); refine ZG ?_ NB493_504.out _; (with_reducible repeat (first | refine Ze ?_ _ | refine Zf ?_ | refine Zd ?_ _)); exact BK493.out) hb); replace BK504 := Aside0.mk (Zg (g := gb504) (o := .cells #[.int .i64 t498, .slice Ao11 t499.length co11] 27 (0, 0)) (by (with_reducible repeat (first | refine Ze ?_ _ | refine Zf ?_ | refine Zd ?_ _)); refine ZB (cs := #[.int .i64 t498, .slice none 0 0]) ?_ 1 _ rfl; (with_reducible repeat (first | refine Ze ?_ _ | refine Zf ?_ | refine Zd ?_ _)); refine ZB (cs := #[.int .i64 0, .slice none 0 0]) ?_ 0 _ rfl; (with_reducible repeat (first | refine Ze ?_ _ | refine Zf ?_ | refine Zd ?_ _)); exact BK504.out) hb); replace HB := Aside0.mk (Zh (by repeat (first | (with_reducible first | exact HB.out | apply Zk | apply Zi | apply Zj | refine Zc ?_ (IsS93.ge HI497.out) | refine Zc ?_ GE493.out | refine Zc ?_ GE504.out) | exact HB.out)) hb); replace HI497 := Aside0.mk (IsS93.below (show IsS93 w ((w7.setCell ⟨gb504, 0, none⟩ (.int .i64 t498)).setCell ⟨gb504, 1, none⟩ (.slice Ao11 t499.length co11)) g497 t494 t502 t503 from by repeat (first | (with_reducible first | exact HI497.out | apply IsS93.alloc | apply IsS93.drewN | apply IsS93.drew | apply IsS93.set_1 | apply IsS93.set_2 | refine IsS93.far ?_ NB497_493.out _ | refine IsS93.far ?_ NB497_504.out _) | exact HI497.out)) hb); clear hb ho13))
 go_loopg [6, 7] k (fun kq v6 v7 w' => ∃ (x6_1 : List Int) (x7_1 : Int) (x498001_1 : Int) (x498002_1 : Int), v7 = .int .i64 x7_1 ∧ Aside0 (spec_DrawRenamed.l0 kq x6_1 x7_1 t494 x498001_1 x498002_1 t498 t499 = some (r1, r2, r3)) ∧ Aside0 (kq ≤ k) ∧ Aside0 (Kd.R (Kd.int .i64) 3 w' w.heap.size (fun _ => True) v6 x6_1) ∧ Aside0 (Kd.S (Kd.slice 3 (Kd.int .i64)) 31 w' w.heap.size (fun k_ => some k_ ≠ (v6 : Value).ownBlock) (.slice Ao11 t499.length co11) t499) ∧ Aside0 (w'.heap[gb493]? = some (.cells #[.int .i64 0, (.slice none 0 0)] 27 (0, 0))) ∧ Aside0 (w'.heap[gb504]? = some (.cells #[.int .i64 t498, (.slice Ao11 t499.length co11)] 27 (0, 0))) ∧ Aside0 (IsS93 w w' g497 t494 x498001_1 x498002_1) ∧ Aside0 (Below w.heap.size w w'))
 case atStart => exact ⟨(y505), (0), (t502), (t503), sm_, H', ⟨Nat.le_refl _⟩, ⟨rR_ HO507.out⟩, ⟨by (with_reducible repeat (first | apply Zs | apply Zr | apply Zp)); exact Zt HO501.out (fun _ hk => hk.2)⟩, ⟨bk_ BK493.out⟩, ⟨bk_ BK504.out⟩, ⟨by repeat (first | (with_reducible first | exact HI497.out | apply IsS93.alloc | apply IsS93.drewN | apply IsS93.drew | apply IsS93.set_1 | apply IsS93.set_2 | refine IsS93.far ?_ NB497_493.out _ | refine IsS93.far ?_ NB497_504.out _) | exact HI497.out)⟩, ⟨by repeat (first | (with_reducible first | exact HB.out | apply Zk | apply Zi | apply Zj | refine Zc ?_ (IsS93.ge HI497.out) | refine Zc ?_ GE493.out | refine Zc ?_ GE504.out) | exact HB.out)⟩⟩
 case round =>
  clear H'
  try clear p2
  try clear c4
  try clear c8
  try clear c9
  try clear hcz10_0
  try clear hcz10_1
  try clear hfz10_0
  try clear hfz10_1
  obtain ⟨x6_1, x7_1, x498001_1, x498002_1, rfl, HA, HK1, HO_6, HO_505001, BK493, BK504, HI497, HB⟩ := hrel
  cases gk with
  | zero => exact absurd HA.out (by simp [spec_DrawRenamed.l0])
  | succ k1 =>
   have H := HA.out
   clear HA
   simp only [spec_DrawRenamed.l0] at H
   obtain ⟨t508, A14, H⟩ := bd_ H
   try dsimp only at H
   by_cases c15 : x7_1 < t508
   rotate_left
   ·rw [if_neg c15] at H
    have c15b0 : decide (x7_1 < t508) = false := decide_eq_false c15
    clear c15
    by_cases c41 : (x6_1.length : Int) > 0
    rotate_left
    ·rw [if_neg c41] at H
     have c41b0 : decide (0 < (x6_1.length : Int)) = false := decide_eq_false c41
     have c41b1 : decide (0 < x6_1.length) = false := decide_eq_false (by omega)
     clear c41
     simp only [Option.some.injEq, Prod.mk.injEq] at H
     obtain ⟨rfl, rfl, rfl⟩ := H
     have hnb59 := NB504_493.out
     have hnc59 := NB493_504.out
     have hnb60 := NB504_497.out
     have hnc60 := NB497_504.out
     obtain ⟨hcz61_0, hcz61_1, hfz61_0, hfz61_1⟩ := c2_ BK504.out
     go_wp2_with (first | ((with_reducible refine Zl (f := 93) rfl ?_); refine ZI (some 17) rfl rfl Try.func93 (by kernel_rfl) rfl #[.int .i64 12, .int .i64 t498] rfl ar_ ?_; (with_reducible refine (spec_Min.calls 12 t498 t508 _ A14.out).mono ?_); rintro e w' ⟨rfl, ⟨nd, rfl⟩⟩; refine ⟨_, rfl, ?_⟩; (try (rw [drewN_self wr]; generalize hq_ : World.drewN wr _ = wr; have n0_ : Aside0 (Kd.S (Kd.slice 3 (Kd.int .i64)) 31 wr w.heap.size (fun k_ => some k_ ≠ (u6 : Value).ownBlock) (.slice Ao11 t499.length co11) t499) := ⟨by rw [← hq_]; exact (rS_ HO_505001.out)⟩; have n1_ : Aside0 (Kd.R (Kd.int .i64) 3 wr w.heap.size (fun _ => True) u6 x6_1) := ⟨by rw [← hq_]; exact (rR_ HO_6.out)⟩; have n2_ : Aside0 (wr.heap[gb493]? = some (.cells #[.int .i64 0, .slice none 0 0] 27 (0, 0))) := ⟨by rw [← hq_]; exact (bk_ BK493.out)⟩; have n3_ : Aside0 (wr.heap[gb504]? = some (.cells #[.int .i64 t498, .slice Ao11 t499.length co11] 27 (0, 0))) := ⟨by rw [← hq_]; exact (bk_ BK504.out)⟩; have n4_ : Aside0 (IsS93 w wr g497 t494 x498001_1 x498002_1) := ⟨by rw [← hq_]; exact (by repeat (first | (with_reducible first | exact HI497.out | apply IsS93.alloc | apply IsS93.drewN | apply IsS93.drew | apply IsS93.set_1 | apply IsS93.set_2 | refine IsS93.far ?_ NB497_493.out _ | refine IsS93.far ?_ NB497_504.out _) | exact HI497.out))⟩; have n5_ : Aside0 (Below w.heap.size w wr) := ⟨by rw [← hq_]; exact (by repeat (first | (with_reducible first | exact HB.out | apply Zk | apply Zi | apply Zj | refine Zc ?_ (IsS93.ge HI497.out) | refine Zc ?_ GE493.out | refine Zc ?_ GE504.out) | exact HB.out))⟩; clear HO_505001 HO_6 BK493 BK504 HI497 HB hq_; have HO_505001 := n0_; have HO_6 := n1_; have BK493 := n2_; have BK504 := n3_; have HI497 := n4_; have HB := n5_; clear n0_ n1_ n2_ n3_ n4_ n5_)); (try (have hcugb493_0 : wr.cell? ⟨gb493, 0, none⟩ = some (.int .i64 0) := (Za BK493.out 0).trans rfl)); (try (have hfugb493_0 := Zb BK493.out 0)); (try (have hcugb493_1 : wr.cell? ⟨gb493, 1, none⟩ = some (.slice none 0 0) := (Za BK493.out 1).trans rfl)); (try (have hfugb493_1 := Zb BK493.out 1)); (try (have hcugb504_0 : wr.cell? ⟨gb504, 0, none⟩ = some (.int .i64 t498) := (Za BK504.out 0).trans rfl)); (try (have hfugb504_0 := Zb BK504.out 0)); (try (have hcugb504_1 : wr.cell? ⟨gb504, 1, none⟩ = some (.slice Ao11 t499.length co11) := (Za BK504.out 1).trans rfl)); (try (have hfugb504_1 := Zb BK504.out 1)); obtain ⟨Ao62, co62, eo62⟩ := Kd.R_slice HO_6.out; subst eo62; have hnb63 := NB493_497.out; have hnc63 := NB497_493.out; obtain ⟨hcz64_0, hcz64_1, hfz64_0, hfz64_1⟩ := c2_ BK493.out))
     refine bodyPost_ret (results_ct rfl _ _ gb493 27 #[.int .i64 t498, .slice Ao11 t499.length co11] (0, 0) _ rfl (by (with_reducible repeat (first | refine Ze ?_ _ | refine Zf ?_ | refine Zd ?_ _)); refine ZB (cs := #[.int .i64 t498, .slice none 0 0]) ?_ 1 _ rfl; (with_reducible repeat (first | refine Ze ?_ _ | refine Zf ?_ | refine Zd ?_ _)); refine ZB (cs := #[.int .i64 0, .slice none 0 0]) ?_ 0 _ rfl; (with_reducible repeat (first | refine Ze ?_ _ | refine Zf ?_ | refine Zd ?_ _)); exact BK493.out) Try.underlying27 rfl (by kernel_rfl)) rfl ?_
     exact ⟨_, _, er_, by (with_reducible repeat (first | apply Zs | apply Zr | apply Zp)); exact Zt (Zq (p := ⟨gb493, 1, none⟩) (Zq (p := ⟨gb493, 0, none⟩) (Zv HO_505001.out BK493.out (by decide)) (fun _ hk => hk.2) (.int .i64 t498)) (fun _ hk => hk.2) (.slice Ao11 t499.length co11)) (fun _ hk => hk.1), by (with_reducible repeat (first | apply ZP | apply ZO | apply ZU)); exact Zw (Kd.R_far (p := ⟨gb493, 1, none⟩) (Kd.R_far (p := ⟨gb493, 0, none⟩) (Kd.R_types HO_6.out BK493.out (by decide)) (fun _ hk => hk.2) (.int .i64 t498)) (fun _ hk => hk.2) (.slice Ao11 t499.length co11)) (fun _ hk => trivial), by repeat (first | (with_reducible first | exact HB.out | apply Zk | apply Zi | apply Zj | refine Zc ?_ (IsS93.ge HI497.out) | refine Zc ?_ GE493.out | refine Zc ?_ GE504.out) | exact HB.out)⟩
    rw [if_pos c41] at H
    have c41b0 : decide (0 < (x6_1.length : Int)) = true := decide_eq_true c41
    have c41b1 : decide (0 < x6_1.length) = true := decide_eq_true (by omega)
    clear c41
    obtain ⟨⟨t535, t536, t537⟩, A42, H⟩ := bd_ H
    try dsimp only at H
    have HC43 := Aside0.mk H
    clear H
    have hnb44 := NB504_493.out
    have hnc44 := NB493_504.out
    have hnb45 := NB504_497.out
    have hnc45 := NB497_504.out
    obtain ⟨hcz46_0, hcz46_1, hfz46_0, hfz46_1⟩ := c2_ BK504.out
    go_upto_if 43 with (first | ((with_reducible refine Zl (f := 93) rfl ?_); refine ZI (some 17) rfl rfl Try.func93 (by kernel_rfl) rfl #[.int .i64 12, .int .i64 t498] rfl ar_ ?_; (with_reducible refine (spec_Min.calls 12 t498 t508 _ A14.out).mono ?_); rintro e w' ⟨rfl, ⟨nd, rfl⟩⟩; refine ⟨_, rfl, ?_⟩; obtain ⟨Ao47, co47, eo47⟩ := Kd.R_slice HO_6.out; subst eo47) | (go_at_call 97; (with_reducible refine (spec_l1Once.calls g497 t494 x498001_1 x498002_1 8 t535 t536 t537 w _ ?side1 ?side2 A42.out).mono ?_); (case side1 => repeat (first | (with_reducible first | exact HI497.out | apply IsS93.alloc | apply IsS93.drewN | apply IsS93.drew | apply IsS93.set_1 | apply IsS93.set_2 | refine IsS93.far ?_ NB497_493.out _ | refine IsS93.far ?_ NB497_504.out _) | exact HI497.out)); (case side2 => repeat (first | (with_reducible first | exact HB.out | apply Zk | apply Zi | apply Zj | refine Zc ?_ (IsS93.ge HI497.out) | refine Zc ?_ GE493.out | refine Zc ?_ GE504.out) | exact HB.out)); rintro e w48 ⟨rfl, hi, hb, hk⟩; replace HO_6 := Aside0.mk (Zw (Kd.R_keep (IsS93.apart (show IsS93 w _ g497 t494 x498001_1 x498002_1 from by repeat (first | (with_reducible first | exact HI497.out | apply IsS93.alloc | apply IsS93.drewN | apply IsS93.drew | apply IsS93.set_1 | apply IsS93.set_2 | refine IsS93.far ?_ NB497_493.out _ | refine IsS93.far ?_ NB497_504.out _) | exact HI497.out)) (rR_ HO_6.out) (by decide)) hk (fun _ h => h.2)) (fun _ h => h.1)); replace HO_505001 := Aside0.mk (Zt (Kd.S_keep (IsS93.apartS (show IsS93 w _ g497 t494 x498001_1 x498002_1 from by repeat (first | (with_reducible first | exact HI497.out | apply IsS93.alloc | apply IsS93.drewN | apply IsS93.drew | apply IsS93.set_1 | apply IsS93.set_2 | refine IsS93.far ?_ NB497_493.out _ | refine IsS93.far ?_ NB497_504.out _) | exact HI497.out)) (rS_ HO_505001.out) (by decide)) hk (fun _ h => h.2)) (fun _ h => h.1)); replace BK493 := Aside0.mk (ZR hk (g' := gb493) (o := .cells #[.int .i64 0, .slice none 0 0] 27 (0, 0)) (bk_ BK493.out) NB493_497.out (by simp)); replace BK504 := Aside0.mk (ZR hk (g' := gb504) (o := .cells #[.int .i64 t498, .slice Ao11 t499.length co11] 27 (0, 0)) (bk_ BK504.out) NB504_497.out (by simp)); replace HB := Aside0.mk (hb); replace HI497 := Aside0.mk (hi); (try clear hb); (try clear hk); (try clear hi)))
    (try simp only [Act.put, ZW, List.set_cons_zero, List.set_cons_succ])
    go_cut [] (fun wc => ∃ (kq : Nat) (x6_42 : List Int), Aside0 (spec_DrawRenamed.j1 kq x6_42 t498 t499 = some (r1, r2, r3)) ∧ Aside0 (kq ≤ k1) ∧ Aside0 (Kd.R (Kd.int .i64) 3 wc w.heap.size (fun _ => True) (.slice Ao47 x6_1.length co47) x6_42) ∧ Aside0 (Kd.S (Kd.slice 3 (Kd.int .i64)) 31 wc w.heap.size (fun k_ => some k_ ≠ ((.slice Ao47 x6_1.length co47) : Value).ownBlock) (.slice Ao11 t499.length co11) t499) ∧ Aside0 (wc.heap[gb493]? = some (.cells #[.int .i64 0, (.slice none 0 0)] 27 (0, 0))) ∧ Aside0 (wc.heap[gb504]? = some (.cells #[.int .i64 t498, (.slice Ao11 t499.length co11)] 27 (0, 0))) ∧ Aside0 (Below w.heap.size w wc))
    case first =>
     have H := HC43.out
     clear HC43
     by_cases c49 : t535 = true
     rotate_left
     ·replace c49 := Bool.eq_false_iff.mpr c49
      subst c49
      have H1 : (spec_DrawRenamed.j1 k1 x6_1 t498 t499) = some (r1, r2, r3) := by rw [if_neg (show ¬ (false = true) by decide)] at H; exact H
      clear H
      have H := H1
      clear H1
      have H' := Aside0.mk H
      clear H
      go_wp2
      go_meet
      case rel => exact ⟨_, (x6_1), H', ⟨by have := HK1.out; first | omega | exact Nat.le_refl _⟩, ⟨rR_ HO_6.out⟩, ⟨rS_ HO_505001.out⟩, ⟨bk_ BK493.out⟩, ⟨bk_ BK504.out⟩, ⟨by repeat (first | (with_reducible first | exact HB.out | apply Zk | apply Zi | apply Zj | refine Zc ?_ (IsS93.ge HI497.out) | refine Zc ?_ GE493.out | refine Zc ?_ GE504.out) | exact HB.out)⟩⟩
     subst c49
     have H1 : ((spec_l1Below.f t494 t536 t537 7).bind fun bt538 => (if 0 < (x6_1.length : Int) then (spec_DrawRenamed.j1 k1 (x6_1.set (0 : Int).toNat bt538.1) t498 t499) else (none))) = some (r1, r2, r3) := by rw [if_pos rfl] at H; exact H
     clear H
     have H := H1
     clear H1
     obtain ⟨⟨t538, t539, t540⟩, A50, H⟩ := bd_ H
     try dsimp only at H
     by_cases c51 : 0 < (x6_1.length : Int)
     rotate_left
     ·rw [if_neg c51] at H
      exact absurd H (by simp)
     rw [if_pos c51] at H
     have c51b0 : decide (0 < (x6_1.length : Int)) = true := decide_eq_true c51
     have c51b1 : decide (0 < x6_1.length) = true := decide_eq_true (by omega)
     clear c51
     (first | rw [c51b0] | (simp only [i64_w, i32_w]; rw [c51b0]) | skip)
     obtain ⟨y541, hy541⟩ : ∃ y_ : List Int, y_ = (x6_1.set (0 : Int).toNat t538) := ⟨_, rfl⟩
     replace H : (spec_DrawRenamed.j1 k1 y541 t498 t499) = some (r1, r2, r3) := hy_ hy541 H
     have Ny541 := Aside0.mk hy541
     clear hy541
     have H' := Aside0.mk H
     clear H
     go_wp2_with (first | ((with_reducible refine Zl (f := 84) rfl ?_); refine ZI (some 46) rfl rfl Try.func84 (by kernel_rfl) rfl #[.pointer (some ⟨g497, 0, none⟩), .int .i64 7] rfl ar_ ?_; (with_reducible refine (spec_l1Below.calls g497 t494 t536 t537 7 t538 t539 t540 w _ ?side1 ?side2 A50.out).mono ?_); (case side1 => repeat (first | (with_reducible first | exact HI497.out | apply IsS93.alloc | apply IsS93.drewN | apply IsS93.drew | apply IsS93.set_1 | apply IsS93.set_2 | refine IsS93.far ?_ NB497_493.out _ | refine IsS93.far ?_ NB497_504.out _) | exact HI497.out)); (case side2 => repeat (first | (with_reducible first | exact HB.out | apply Zk | apply Zi | apply Zj | refine Zc ?_ (IsS93.ge HI497.out) | refine Zc ?_ GE493.out | refine Zc ?_ GE504.out) | exact HB.out)); rintro e w53 ⟨rfl, hi, hb, hk⟩; refine ⟨_, rfl, ?_⟩; replace HO_6 := Aside0.mk (Zw (Kd.R_keep (IsS93.apart (show IsS93 w _ g497 t494 t536 t537 from by repeat (first | (with_reducible first | exact HI497.out | apply IsS93.alloc | apply IsS93.drewN | apply IsS93.drew | apply IsS93.set_1 | apply IsS93.set_2 | refine IsS93.far ?_ NB497_493.out _ | refine IsS93.far ?_ NB497_504.out _) | exact HI497.out)) (rR_ HO_6.out) (by decide)) hk (fun _ h => h.2)) (fun _ h => h.1)); replace HO_505001 := Aside0.mk (Zt (Kd.S_keep (IsS93.apartS (show IsS93 w _ g497 t494 t536 t537 from by repeat (first | (with_reducible first | exact HI497.out | apply IsS93.alloc | apply IsS93.drewN | apply IsS93.drew | apply IsS93.set_1 | apply IsS93.set_2 | refine IsS93.far ?_ NB497_493.out _ | refine IsS93.far ?_ NB497_504.out _) | exact HI497.out)) (rS_ HO_505001.out) (by decide)) hk (fun _ h => h.2)) (fun _ h => h.1)); replace BK493 := Aside0.mk (ZR hk (g' := gb493) (o := .cells #[.int .i64 0, .slice none 0 0] 27 (0, 0)) (bk_ BK493.out) NB493_497.out (by simp)); replace BK504 := Aside0.mk (ZR hk (g' := gb504) (o := .cells #[.int .i64 t498, .slice Ao11 t499.length co11] 27 (0, 0)) (bk_ BK504.out) NB504_497.out (by simp)); replace HB := Aside0.mk (hb); replace HI497 := Aside0.mk (hi); (try clear hb); (try clear hk); (try clear hi); have p52 : 0 ≤ (0 : Int) := (by omega); have q52 : (0 : Int) < ((x6_1.length : Int) : Int) := of_decide_eq_true as_; have qi52 : (0 < x6_1.length) = True := eq_true (by omega); obtain ⟨go52, co52, eo52, gb52, gl52, cl52, HG52⟩ := Kd.R_form HO_6.out (by omega); (first | cases eo52 | (injection eo52 with ea_ en_ ec_; (first | subst ea_ | (injection ea_ with ea_; subst ea_)); subst ec_; clear en_)); have GB52 := Aside0.mk gb52; have GG52 := Aside0.mk HG52; clear gb52 gl52 HG52; obtain ⟨hx52_0, hf52_0⟩ := Kd.R_celln 0 HO_6.out (0 : Int) p52 q52; (try rw [show ((0 : Int)).toNat = 0 from rfl] at hx52_0); (try simp only [Nat.reduceMul, Nat.zero_mul, Nat.zero_add, Nat.reduceAdd] at hx52_0); (try rw [show ((0 : Int)).toNat = 0 from rfl] at hf52_0); (try simp only [Nat.reduceMul, Nat.zero_mul, Nat.zero_add, Nat.reduceAdd] at hf52_0); replace p52 := eq_true p52; replace q52 := eq_true q52; obtain ⟨hy54_, hz54_⟩ := Kd.R_celln 0 HO_6.out (0 : Int) (by omega) (of_decide_eq_true as_); (try simp only [Int.reduceToNat, Int.toNat_zero, Int.toNat_ofNat, Nat.reduceMul, Nat.zero_mul, Nat.zero_add] at hy54_ hz54_); (try rw [show ((0 : Int)).toNat = 0 from rfl] at hy54_); (try rw [show ((0 : Int)).toNat = 0 from rfl] at hz54_); have HP54 := Kd.R_putg HO_6.out (0 : Int) t538) | ((with_reducible refine gate_store (t := 3) (p := 47) rfl ?_); refine store_event (t := 3) (p := 47) (v := ?vo_w55) (w1 := (w53.setCell ⟨go52, (0 : Int).toNat, none⟩ (.int .i64 t538))) ?hg ?ho ?hn ?hr ?_; (case ho => rfl); (case hg => rfl); (case hn => rfl); (case hr => first | (go_simp; done) | (go_simp; rfl)); intro w55 hw; have hg : w53.grownBy w55 (some go52) := (by rw [hw]; exact HP54.2); have hp_ : Kd.R (Kd.int .i64) 3 w55 w.heap.size (fun _ => True) (.slice (some ⟨go52, 0, none⟩) x6_1.length co47) y541 := (by rw [hw, Ny541.out]; exact HP54.1); clear HP54; replace HO_505001 := Aside0.mk (Kd.S_after (v := (.slice (some ⟨go52, 0, none⟩) x6_1.length co47)) (v1 := (.slice (some ⟨go52, 0, none⟩) x6_1.length co47)) (ok := (fun _ => True)) (by (with_reducible repeat (first | apply Zs | apply Zr | apply Zp)); exact Zt HO_505001.out (fun _ hk => ⟨trivial, hk⟩)) hg (.inl rfl)); replace BK493 := Aside0.mk (ZT (bq_ BK493.out) hg (Kd.R_ne HO_6.out BK493.out (by decide))); replace BK504 := Aside0.mk (ZT (bq_ BK504.out) hg (Kd.R_ne HO_6.out BK504.out (by decide))); replace HI497 := Aside0.mk (IsS93.grown (by repeat (first | (with_reducible first | exact HI497.out | apply IsS93.alloc | apply IsS93.drewN | apply IsS93.drew | apply IsS93.set_1 | apply IsS93.set_2 | refine IsS93.far ?_ NB497_493.out _ | refine IsS93.far ?_ NB497_504.out _) | exact HI497.out)) hg (IsS93.own_ne HI497.out HO_6.out (by decide))); replace HO_6 := Aside0.mk (hp_); replace HB := Aside0.mk ((by rw [hw]; exact Zc (HB.out) GB52.out : Below w.heap.size w w55)); clear hg hw hp_))
     go_meet
     case rel => exact ⟨_, (y541), H', ⟨by have := HK1.out; first | omega | exact Nat.le_refl _⟩, ⟨rR_ HO_6.out⟩, ⟨by (with_reducible repeat (first | apply Zs | apply Zr | apply Zp)); exact Zt HO_505001.out (fun _ hk => hk.2)⟩, ⟨bk_ BK493.out⟩, ⟨bk_ BK504.out⟩, ⟨by repeat (first | (with_reducible first | exact HB.out | apply Zk | apply Zi | apply Zj | refine Zc ?_ (IsS93.ge HI497.out) | refine Zc ?_ GE493.out | refine Zc ?_ GE504.out) | exact HB.out)⟩⟩
    case rest =>
     clear HC43
     try clear c1
     try clear c2
     try clear p2
     try clear c4
     try clear c5
     try clear p5
     try clear q5
     try clear hx5
     try clear qi5
     try clear hf5
     try clear p6
     try clear c8
     try clear c9
     try clear c15
     try clear c15b0
     try clear c17
     try clear c18
     try clear c19
     try clear c20
     try clear c23
     try clear c41
     try clear c41b0
     try clear c41b1
     try clear c44
     try clear c45
     try clear c49
     try clear c51
     try clear c51b0
     try clear c51b1
     try clear p52
     try clear q52
     try clear hx52
     try clear qi52
     try clear hf52
     try clear hcz46_0
     try clear hcz46_1
     try clear hfz46_0
     try clear hfz46_1
     try clear hx52_0
     try clear p52
     try clear q52
     obtain ⟨kq, x6_42, HA, HJ42, HO_6, HO_505001, BK493, BK504, HB⟩ := hcut
     have hl6_42 := (ZF HO_6.out).1
     rw [hl6_42] at HO_6
     (try simp only [hl6_42])
     (try simp only [hl6_42] at BK493)
     (try simp only [hl6_42] at BK504)
     (try simp only [hl6_42] at HO_505001)
     cases kq with
     | zero => exact absurd HA.out (by simp [spec_DrawRenamed.j1])
     | succ kj42 =>
      have H := HA.out
      clear HA
      simp only [spec_DrawRenamed.j1] at H
      simp only [Option.some.injEq, Prod.mk.injEq] at H
      obtain ⟨rfl, rfl, rfl⟩ := H
      have hnb56 := NB504_493.out
      have hnc56 := NB493_504.out
      obtain ⟨hcz57_0, hcz57_1, hfz57_0, hfz57_1⟩ := c2_ BK504.out
      obtain ⟨hcz58_0, hcz58_1, hfz58_0, hfz58_1⟩ := c2_ BK493.out
      go_wp2
      refine bodyPost_ret (results_ct rfl _ _ gb493 27 #[.int .i64 t498, .slice Ao11 t499.length co11] (0, 0) _ rfl (by (with_reducible repeat (first | refine Ze ?_ _ | refine Zf ?_ | refine Zd ?_ _)); refine ZB (cs := #[.int .i64 t498, .slice none 0 0]) ?_ 1 _ rfl; (with_reducible repeat (first | refine Ze ?_ _ | refine Zf ?_ | refine Zd ?_ _)); refine ZB (cs := #[.int .i64 0, .slice none 0 0]) ?_ 0 _ rfl; (with_reducible repeat (first | refine Ze ?_ _ | refine Zf ?_ | refine Zd ?_ _)); exact BK493.out) Try.underlying27 rfl (by kernel_rfl)) rfl ?_
      exact ⟨_, _, er_, by (with_reducible repeat (first | apply Zs | apply Zr | apply Zp)); exact Zt (Zq (p := ⟨gb493, 1, none⟩) (Zq (p := ⟨gb493, 0, none⟩) (Zv HO_505001.out BK493.out (by decide)) (fun _ hk => hk.2) (.int .i64 t498)) (fun _ hk => hk.2) (.slice Ao11 t499.length co11)) (fun _ hk => hk.1), by (with_reducible repeat (first | apply ZP | apply ZO | apply ZU)); exact Zw (Kd.R_far (p := ⟨gb493, 1, none⟩) (Kd.R_far (p := ⟨gb493, 0, none⟩) (Kd.R_types HO_6.out BK493.out (by decide)) (fun _ hk => hk.2) (.int .i64 t498)) (fun _ hk => hk.2) (.slice Ao11 t499.length co11)) (fun _ hk => trivial), hB_⟩
   rw [if_pos c15] at H
   have c15b0 : decide (x7_1 < t508) = true := decide_eq_true c15
   clear c15
   obtain ⟨⟨t509, t510, t511⟩, A16, H⟩ := bd_ H
   try dsimp only at H
   obtain ⟨y512, hy512⟩ : ∃ y_ : List Int, y_ = (([] : List Int)) := ⟨_, rfl⟩
   replace H : (if 0 ≤ t509 then (if t509 ≤ (x6_1.length : Int) then ((some (x6_1.take (t509 : Int).toNat : List Int)).bind fun y515 => (if y512.length + y515.length < 17592186044416 then ((some (y512 ++ y515 : List Int)).bind fun y519 => ((some (([x7_1] : List Int) : List Int)).bind fun y522 => (if y519.length + y522.length < 17592186044416 then ((some (y519 ++ y522 : List Int)).bind fun y525 => ((some (x6_1.drop (t509 : Int).toNat : List Int)).bind fun y528 => (if y525.length + y528.length < 17592186044416 then (spec_DrawRenamed.l0 k1 (y525 ++ y528) (wrap64 (x7_1 + 1)) t494 t510 t511 t498 t499) else (none)))) else (none)))) else (none))) else (none)) else (none)) = some (r1, r2, r3) := hy_ hy512 H
   have Ny512 := Aside0.mk hy512
   clear hy512
   by_cases c17 : 0 ≤ t509
   rotate_left
   ·rw [if_neg c17] at H
    exact absurd H (by simp)
   rw [if_pos c17] at H
   have c17b0 := eq_true c17
   have c17b1 : decide (0 ≤ t509) = true := decide_eq_true c17
   clear c17
   by_cases c18 : t509 ≤ (x6_1.length : Int)
   rotate_left
   ·rw [if_neg c18] at H
    exact absurd H (by simp)
   rw [if_pos c18] at H
   have c18b0 := eq_true c18
   have c18b1 : decide (t509 ≤ (x6_1.length : Int)) = true := decide_eq_true c18
   clear c18
   obtain ⟨y515, hy515⟩ : ∃ y_ : List Int, y_ = (x6_1.take (t509 : Int).toNat) := ⟨_, rfl⟩
   replace H : (if y512.length + y515.length < 17592186044416 then ((some (y512 ++ y515 : List Int)).bind fun y519 => ((some (([x7_1] : List Int) : List Int)).bind fun y522 => (if y519.length + y522.length < 17592186044416 then ((some (y519 ++ y522 : List Int)).bind fun y525 => ((some (x6_1.drop (t509 : Int).toNat : List Int)).bind fun y528 => (if y525.length + y528.length < 17592186044416 then (spec_DrawRenamed.l0 k1 (y525 ++ y528) (wrap64 (x7_1 + 1)) t494 t510 t511 t498 t499) else (none)))) else (none)))) else (none)) = some (r1, r2, r3) := hy_ hy515 H
   have Ny515 := Aside0.mk hy515
   clear hy515
   by_cases c19 : y512.length + y515.length < 17592186044416
   rotate_left
   ·rw [if_neg c19] at H
    exact absurd H (by simp)
   rw [if_pos c19] at H
   have LMc19 := Aside0.mk c19
   clear c19
   obtain ⟨y519, hy519⟩ : ∃ y_ : List Int, y_ = (y512 ++ y515) := ⟨_, rfl⟩
   replace H : ((some (([x7_1] : List Int) : List Int)).bind fun y522 => (if y519.length + y522.length < 17592186044416 then ((some (y519 ++ y522 : List Int)).bind fun y525 => ((some (x6_1.drop (t509 : Int).toNat : List Int)).bind fun y528 => (if y525.length + y528.length < 17592186044416 then (spec_DrawRenamed.l0 k1 (y525 ++ y528) (wrap64 (x7_1 + 1)) t494 t510 t511 t498 t499) else (none)))) else (none))) = some (r1, r2, r3) := hy_ hy519 H
   have Ny519 := Aside0.mk hy519
   clear hy519
   obtain ⟨y522, hy522⟩ : ∃ y_ : List Int, y_ = (([x7_1] : List Int)) := ⟨_, rfl⟩
   replace H : (if y519.length + y522.length < 17592186044416 then ((some (y519 ++ y522 : List Int)).bind fun y525 => ((some (x6_1.drop (t509 : Int).toNat : List Int)).bind fun y528 => (if y525.length + y528.length < 17592186044416 then (spec_DrawRenamed.l0 k1 (y525 ++ y528) (wrap64 (x7_1 + 1)) t494 t510 t511 t498 t499) else (none)))) else (none)) = some (r1, r2, r3) := hy_ hy522 H
   have Ny522 := Aside0.mk hy522
   clear hy522
   by_cases c20 : y519.length + y522.length < 17592186044416
   rotate_left
   ·rw [if_neg c20] at H
    exact absurd H (by simp)
   rw [if_pos c20] at H
   have LMc20 := Aside0.mk c20
   clear c20
   obtain ⟨y525, hy525⟩ : ∃ y_ : List Int, y_ = (y519 ++ y522) := ⟨_, rfl⟩
   replace H : ((some (x6_1.drop (t509 : Int).toNat : List Int)).bind fun y528 => (if y525.length + y528.length < 17592186044416 then (spec_DrawRenamed.l0 k1 (y525 ++ y528) (wrap64 (x7_1 + 1)) t494 t510 t511 t498 t499) else (none))) = some (r1, r2, r3) := hy_ hy525 H
   have Ny525 := Aside0.mk hy525
   clear hy525
   have c21b0 := eq_true (of_decide_eq_true as_ : 0 ≤ t509)
   have c22b0 := eq_true (of_decide_eq_true as_ : t509 ≤ (x6_1.length : Int))
   obtain ⟨y528, hy528⟩ : ∃ y_ : List Int, y_ = (x6_1.drop (t509 : Int).toNat) := ⟨_, rfl⟩
   replace H : (if y525.length + y528.length < 17592186044416 then (spec_DrawRenamed.l0 k1 (y525 ++ y528) (wrap64 (x7_1 + 1)) t494 t510 t511 t498 t499) else (none)) = some (r1, r2, r3) := hy_ hy528 H
   have Ny528 := Aside0.mk hy528
   clear hy528
   by_cases c23 : y525.length + y528.length < 17592186044416
   rotate_left
   ·rw [if_neg c23] at H
    exact absurd H (by simp)
   rw [if_pos c23] at H
   have LMc23 := Aside0.mk c23
   clear c23
   obtain ⟨y532, hy532⟩ : ∃ y_ : List Int, y_ = (y525 ++ y528) := ⟨_, rfl⟩
   replace H : (spec_DrawRenamed.l0 k1 y532 (wrap64 (x7_1 + 1)) t494 t510 t511 t498 t499) = some (r1, r2, r3) := hy_ hy532 H
   have Ny532 := Aside0.mk hy532
   clear hy532
   have H' := Aside0.mk H
   clear H
   have hnb24 := NB504_493.out
   have hnc24 := NB493_504.out
   have hnb25 := NB504_497.out
   have hnc25 := NB497_504.out
   obtain ⟨hcz26_0, hcz26_1, hfz26_0, hfz26_1⟩ := c2_ BK504.out
   try go_wp2_with (first | ((with_reducible refine Zl (f := 93) rfl ?_); refine ZI (some 17) rfl rfl Try.func93 (by kernel_rfl) rfl #[.int .i64 12, .int .i64 t498] rfl ar_ ?_; (with_reducible refine (spec_Min.calls 12 t498 t508 _ A14.out).mono ?_); rintro e w' ⟨rfl, ⟨nd, rfl⟩⟩; refine ⟨_, rfl, ?_⟩) | ((with_reducible refine Zl (f := 84) rfl ?_); refine ZI (some 24) rfl rfl Try.func84 (by kernel_rfl) rfl #[.pointer (some ⟨g497, 0, none⟩), .int .i64 (wrap64 (x7_1 + 1))] rfl ar_ ?_; (with_reducible refine (spec_l1Below.calls g497 t494 x498001_1 x498002_1 (wrap64 (x7_1 + 1)) t509 t510 t511 w _ ?side1 ?side2 A16.out).mono ?_); (case side1 => repeat (first | (with_reducible first | exact HI497.out | apply IsS93.alloc | apply IsS93.drewN | apply IsS93.drew | apply IsS93.set_1 | apply IsS93.set_2 | refine IsS93.far ?_ NB497_493.out _ | refine IsS93.far ?_ NB497_504.out _) | exact HI497.out)); (case side2 => repeat (first | (with_reducible first | exact HB.out | apply Zk | apply Zi | apply Zj | refine Zc ?_ (IsS93.ge HI497.out) | refine Zc ?_ GE493.out | refine Zc ?_ GE504.out) | exact HB.out)); rintro e w27 ⟨rfl, hi, hb, hk⟩; refine ⟨_, rfl, ?_⟩; replace HO_6 := Aside0.mk (Zw (Kd.R_keep (IsS93.apart (show IsS93 w _ g497 t494 x498001_1 x498002_1 from by repeat (first | (with_reducible first | exact HI497.out | apply IsS93.alloc | apply IsS93.drewN | apply IsS93.drew | apply IsS93.set_1 | apply IsS93.set_2 | refine IsS93.far ?_ NB497_493.out _ | refine IsS93.far ?_ NB497_504.out _) | exact HI497.out)) (rR_ HO_6.out) (by decide)) hk (fun _ h => h.2)) (fun _ h => h.1)); replace HO_505001 := Aside0.mk (Zt (Kd.S_keep (IsS93.apartS (show IsS93 w _ g497 t494 x498001_1 x498002_1 from by repeat (first | (with_reducible first | exact HI497.out | apply IsS93.alloc | apply IsS93.drewN | apply IsS93.drew | apply IsS93.set_1 | apply IsS93.set_2 | refine IsS93.far ?_ NB497_493.out _ | refine IsS93.far ?_ NB497_504.out _) | exact HI497.out)) (rS_ HO_505001.out) (by decide)) hk (fun _ h => h.2)) (fun _ h => h.1)); replace BK493 := Aside0.mk (ZR hk (g' := gb493) (o := .cells #[.int .i64 0, .slice none 0 0] 27 (0, 0)) (bk_ BK493.out) NB493_497.out (by simp)); replace BK504 := Aside0.mk (ZR hk (g' := gb504) (o := .cells #[.int .i64 t498, .slice Ao11 t499.length co11] 27 (0, 0)) (bk_ BK504.out) NB504_497.out (by simp)); replace HB := Aside0.mk (hb); replace HI497 := Aside0.mk (hi); (try clear hb); (try clear hk); (try clear hi)))
   replace HO_6 := Aside0.mk (ZU HO_6.out)
   replace HO_505001 := Aside0.mk (Zp HO_505001.out)
   replace BK493 := Aside0.mk (Zf BK493.out)
   replace BK504 := Aside0.mk (Zf BK504.out)
   replace HI497 := Aside0.mk (IsS93.drew HI497.out)
   replace HB := Aside0.mk (Zj HB.out)
   obtain ⟨Ao30, co30, eo30⟩ := Kd.R_slice HO_6.out
   (first | subst eo30 | (injection eo30 with f1_ f2_ f3_; have f4_ := f1_.symm; have f5_ := f3_.symm; clear f1_ f2_ f3_; subst f4_; subst f5_))
   have q29 : (t509 : Int) ≤ ((x6_1.length : Int) : Int) := of_decide_eq_true as_
   obtain ⟨i029, hi029, _, hsz29, _⟩ := info_parts info3
   have hroom29 : x6_1.length ≤ co30 := (ZF HO_6.out).2.1
   have hC29 : Kd.C (Kd.int .i64) _ Ao30 x6_1.length x6_1 := (ZF HO_6.out).2.2
   have hcut29 := cut_to (P := Try.prog) 31 3 .i64 Try.underlying31 hi029 Ao30 x6_1.length co30 t509 (of_decide_eq_true as_) q29 hroom29
   have hr29 := Kd.C_take (m := (t509 : Int).toNat) hC29 (by omega)
   have hy29 : y515.length = (t509 : Int).toNat := (by first | (rw [Ny515.out, List.length_take]; omega) | (rw [Ny515.out, List.length_take, Ny532.out, List.length_set]; omega) | (rw [Ny515.out, List.length_take, Ny528.out, List.length_set]; omega) | (rw [Ny515.out, List.length_take, Ny525.out, List.length_set]; omega) | (rw [Ny515.out, List.length_take, Ny522.out, List.length_set]; omega) | (rw [Ny515.out, List.length_take, Ny519.out, List.length_set]; omega) | (rw [Ny515.out, List.length_take, Ny512.out, List.length_set]; omega) | (rw [Ny515.out, List.length_take, Ny505.out, List.length_set]; omega))
   rw [← Ny515.out] at hr29
   rw [← hy29] at hcut29
   have HR518 := Aside0.mk hr29
   have HC518 := Aside0.mk (show y515.length ≤ co30 from by omega)
   clear hr29 hC29 hroom29 hi029 hsz29
   have KY29 := Aside0.mk hy29
   clear hy29
   have KL29 := Aside0.mk (show (t509 : Int).toNat ≤ x6_1.length from by omega)
   replace q29 := eq_true q29
   have q31 : (t509 : Int) ≤ ((x6_1.length : Int) : Int) := of_decide_eq_true as_
   obtain ⟨i031, hi031, _, hsz31, _⟩ := info_parts info3
   have hroom31 : x6_1.length ≤ co30 := (ZF HO_6.out).2.1
   have hC31 : Kd.C (Kd.int .i64) _ Ao30 x6_1.length x6_1 := (ZF HO_6.out).2.2
   have q031 : (0 : Int) ≤ (t509 : Int) := of_decide_eq_true as_
   have hcut31 := cut_from (P := Try.prog) 31 3 .i64 Try.underlying31 hi031 1 hsz31 Ao30 x6_1.length co30 t509 q031 q31
   have hr31 := Kd.C_drop (m := (t509 : Int).toNat) (c := co30) hC31 (by omega) hroom31
   obtain ⟨A31, hA31⟩ : ∃ A1, A1 = (if co30 = (t509 : Int).toNat then Ao30 else (Ao30 : Option Addr).map (·.add ((t509 : Int).toNat * 1))) := ⟨_, rfl⟩
   obtain ⟨c31, hc31⟩ : ∃ c1, c1 = co30 - (t509 : Int).toNat := ⟨_, rfl⟩
   have hy31 : y528.length = x6_1.length - (t509 : Int).toNat := (by rw [Ny528.out, List.length_drop] <;> omega)
   rw [show (x6_1).drop (t509 : Int).toNat = y528 from Ny528.out.symm] at hr31
   replace hr31 : Kd.C (Kd.int .i64) _ A31 y528.length y528 := (by rw [hA31]; exact hr31)
   rw [← hy31, ← hA31, ← hc31] at hcut31
   have HR531 := Aside0.mk hr31
   have HC531 := Aside0.mk (show y528.length ≤ c31 from by rw [hy31, hc31]; exact Nat.sub_le_sub_right hroom31 _)
   clear hr31 hC31 hroom31 hi031 hsz31 hc31
   have KY31 := Aside0.mk hy31
   have KA31 := Aside0.mk hA31
   clear hy31 hA31
   have KL31 := Aside0.mk (show (t509 : Int).toNat ≤ x6_1.length from by omega)
   replace q31 := eq_true q31
   refine start_ (n := 13) (S := fun w' => True) (ds := []) (m_ 13 0) (by kernel_rfl) rfl rfl trivial (fun hHeld => ?_); refine with_tabW spec_DrawRenamed.tab8 spec_DrawRenamed.bits8 (fun HT_ HW_ => ?_)
   generalize w27.drew = w28 at HO_6 HO_505001 BK493 BK504 HI497 HB HR518 HR531 hHeld ⊢
   refine pu_ 1 26 (m_ 13 2) ?_
   refine pu_ 2 27 (m_ 13 6) ?_
   refine pu_ 3 28 (m_ 13 14) ?_
   refine pu_ 5 30 (m_ 13 46) ?_
   refine pu_ 8 33 (m_ 13 302) ?_
   refine pu_ 9 34 (m_ 13 814) ?_
   refine pu_ 10 35 (m_ 13 1838) ?_
   refine join_ (σ := Value × Value × Value) 3 (m_ 13 1919) (fun s_ => [(25, s_.1), (29, s_.2.1), (31, s_.2.2)]) (fun s_ w' => (Kd.R (Kd.int .i64) 3 w' w.heap.size (fun k_ => some k_ ≠ (s_.2.2 : Value).ownBlock ∧ some k_ ≠ (.slice Ao30 x6_1.length co30 : Value).ownBlock) s_.2.1 y519) ∧ (Kd.R (Kd.int .i64) 3 w' w.heap.size (fun k_ => some k_ ≠ (s_.2.1 : Value).ownBlock ∧ some k_ ≠ (.slice Ao30 x6_1.length co30 : Value).ownBlock) s_.2.2 y522) ∧ (Kd.S (Kd.slice 3 (Kd.int .i64)) 31 w' w.heap.size (fun k_ => some k_ ≠ (s_.2.1 : Value).ownBlock ∧ some k_ ≠ (s_.2.2 : Value).ownBlock ∧ some k_ ≠ (.slice Ao30 x6_1.length co30 : Value).ownBlock) (.slice Ao11 t499.length co11) t499) ∧ (Kd.R (Kd.int .i64) 3 w' w.heap.size (fun k_ => some k_ ≠ (s_.2.1 : Value).ownBlock ∧ some k_ ≠ (s_.2.2 : Value).ownBlock) (.slice Ao30 x6_1.length co30) x6_1) ∧ (Kd.C (Kd.int .i64) w' Ao30 y515.length y515) ∧ (Kd.C (Kd.int .i64) w' A31 y528.length y528) ∧ (w'.heap[gb493]? = some (.cells #[.int .i64 0, .slice none 0 0] 27 (0, 0))) ∧ (w'.heap[gb504]? = some (.cells #[.int .i64 t498, .slice Ao11 t499.length co11] 27 (0, 0))) ∧ (IsS93 w w' g497 t494 t510 t511) ∧ (Below w.heap.size w w')) ?_ ?_
   rotate_left
   ·intro hCont
    refine two_ (i := 0) (j := 6) (Ni := some 25) (Nj := some 31) (m_ 13 1839) (m_ 13 1902) rfl rfl rfl rfl (two_of HT_.out (by kernel_rfl)) (by decide) (by decide) (fun K hK => ?_) (fun K hK => ?_)
    rotate_left
    ·skip
     refine Kd.R_lit_step (Kd.int .i64) _ 3 ?hg (N := 31) ?hd (xs := ([x7_1] : List Int)) (inner := [.int .i64 x7_1]) (ok := fun _ => True) (okp := fun _ => True) ?hr ?hp (fun _ hk => hk) trivial (Below.refl _ _) (Nat.le_refl _) (by simp) ?_; (case hd => rfl); (case hg => rfl); (case hr => first | (go_simp; done) | (go_simp; rfl)); (case hp => exact (Reps.one (show Kd.M (Kd.int .i64) _ _ _ x7_1 [.int .i64 x7_1] from rfl) (Reps.none _ _)))
     intro v523 w32 ho33 hb hg_ hnew_
     clear hg_ hnew_
     (first | rw [← Ny522.out] at ho33 | (simp only [Int.reduceToNat] at ho33; rw [← Ny522.out] at ho33))
     replace HO_505001 := Aside0.mk (Kd.S_elder' (rS_ HO_505001.out) (Kd.R_base ho33) hb)
     have HO524 := Aside0.mk (Kd.R_lower (Kd.R_new' ho33 (Kd.R_lt (rR_ HO_6.out))) (Zm (by repeat (first | (with_reducible first | exact HB.out | apply Zk | apply Zi | apply Zj | refine Zc ?_ (IsS93.ge HI497.out) | refine Zc ?_ GE493.out | refine Zc ?_ GE504.out) | exact HB.out))))
     replace HO_6 := Aside0.mk (Kd.R_elder' (rR_ HO_6.out) (Kd.R_base ho33) hb)
     replace BK493 := Aside0.mk (Zg (bq_ BK493.out) hb)
     replace BK504 := Aside0.mk (Zg (bq_ BK504.out) hb)
     replace HR518 := Aside0.mk (Kd.C_below (cf_ HR518.out) hb)
     replace HR531 := Aside0.mk (Kd.C_below (cf_ HR531.out) hb)
     replace HB := Aside0.mk (Zh (by repeat (first | (with_reducible first | exact HB.out | apply Zk | apply Zi | apply Zj | refine Zc ?_ (IsS93.ge HI497.out) | refine Zc ?_ GE493.out | refine Zc ?_ GE504.out) | exact HB.out)) hb)
     replace HI497 := Aside0.mk (IsS93.below (by repeat (first | (with_reducible first | exact HI497.out | apply IsS93.alloc | apply IsS93.drewN | apply IsS93.drew | apply IsS93.set_1 | apply IsS93.set_2 | refine IsS93.far ?_ NB497_493.out _ | refine IsS93.far ?_ NB497_504.out _) | exact HI497.out)) hb)
     clear hb ho33
     refine hK.out _ _ trivial (fun hHeld => ?_)
     clear hK K
     refine no_ 31 ?_
     refine on_ 0 25 (m_ 13 1903) (fun K hK => ?_)
     refine Kd.R_lit_step (Kd.int .i64) _ 3 ?hg (N := 25) ?hd (xs := ([] : List Int)) (inner := []) (ok := fun _ => True) (okp := fun _ => True) ?hr ?hp (fun _ hk => hk) trivial (Below.refl _ _) (Nat.le_refl _) (by simp) ?_; (case hd => rfl); (case hg => rfl); (case hr => first | (go_simp; done) | (go_simp; rfl)); (case hp => exact (Reps.none _ _))
     intro v513 w34 ho35 hb hg_ hnew_
     clear hg_ hnew_
     (first | rw [← Ny512.out] at ho35 | (simp only [Int.reduceToNat] at ho35; rw [← Ny512.out] at ho35))
     replace HO_505001 := Aside0.mk (Kd.S_elder' (rS_ HO_505001.out) (Kd.R_base ho35) hb)
     have HO514 := Aside0.mk (Kd.R_lower (Kd.R_new' (Kd.R_new' ho35 (Kd.R_lt (rR_ HO_6.out))) (Kd.R_lt (rR_ HO524.out))) (Zm (by repeat (first | (with_reducible first | exact HB.out | apply Zk | apply Zi | apply Zj | refine Zc ?_ (IsS93.ge HI497.out) | refine Zc ?_ GE493.out | refine Zc ?_ GE504.out) | exact HB.out))))
     replace HO_6 := Aside0.mk (Kd.R_elder' (rR_ HO_6.out) (Kd.R_base ho35) hb)
     replace HO524 := Aside0.mk (Kd.R_elder' (rR_ HO524.out) (Kd.R_base ho35) hb)
     replace BK493 := Aside0.mk (Zg (bq_ BK493.out) hb)
     replace BK504 := Aside0.mk (Zg (bq_ BK504.out) hb)
     replace HR518 := Aside0.mk (Kd.C_below (cf_ HR518.out) hb)
     replace HR531 := Aside0.mk (Kd.C_below (cf_ HR531.out) hb)
     replace HB := Aside0.mk (Zh (by repeat (first | (with_reducible first | exact HB.out | apply Zk | apply Zi | apply Zj | refine Zc ?_ (IsS93.ge HI497.out) | refine Zc ?_ GE493.out | refine Zc ?_ GE504.out) | exact HB.out)) hb)
     replace HI497 := Aside0.mk (IsS93.below (by repeat (first | (with_reducible first | exact HI497.out | apply IsS93.alloc | apply IsS93.drewN | apply IsS93.drew | apply IsS93.set_1 | apply IsS93.set_2 | refine IsS93.far ?_ NB497_493.out _ | refine IsS93.far ?_ NB497_504.out _) | exact HI497.out)) hb)
     clear hb ho35
     refine hK.out _ _ trivial (fun hHeld => ?_)
     clear hK K
     refine no_ 25 ?_
     refine on_ 4 29 (m_ 13 1919) (fun K hK => ?_)
     refine Kd.R_append_rows_step (Kd.int .i64) (w0 := w) w.heap.size (by rfl) (.tmp 25) (.tmp 28) 31 3 (.int .i64 0) 8 rfl Try.underlying31 info3 rfl (by decide) (by omega) v513 y512 y515 _ _ _ (fun k_ => some k_ ≠ (.slice Ao30 x6_1.length co30 : Value).ownBlock ∧ some k_ ≠ (v523 : Value).ownBlock) (fun _ => False) rfl rfl ?aO ?aR (fun _ _ h => h) (fun _ h => h.elim) ?aF ?aB ?aS ?aL ?_
     (case aR => repeat (first | exact (cf_ HR518.out) | (with_reducible refine ZM ?_ _) | (with_reducible refine ZH ?_ _) | (with_reducible refine ZQ ?_)))
     (case aB => exact (by repeat (first | (with_reducible first | exact HB.out | apply Zk | apply Zi | apply Zj | refine Zc ?_ (IsS93.ge HI497.out) | refine Zc ?_ GE493.out | refine Zc ?_ GE504.out) | exact HB.out)))
     (case aF => exact (fun k_ hk => ⟨Kd.fresh' (Kd.R_lt (rR_ HO_6.out)) k_ hk, Kd.fresh' (Kd.R_lt (rR_ HO524.out)) k_ hk⟩))
     (case aO => exact (by (with_reducible repeat (first | apply ZP | apply ZO | apply ZU)); exact Zw HO514.out (fun _ hk => ⟨hk.1.2, hk.2⟩)))
     (case aS => exact (Zm (by repeat (first | (with_reducible first | exact HB.out | apply Zk | apply Zi | apply Zj | refine Zc ?_ (IsS93.ge HI497.out) | refine Zc ?_ GE493.out | refine Zc ?_ GE504.out) | exact HB.out))))
     (case aL => have := LMc19.out; omega)
     intro v520 w36 ho hb hg hat
     rw [← Ny519.out] at ho
     have n0_ := Aside0.mk (Kd.R_after (ok := (fun k_ => some k_ ≠ (v523 : Value).ownBlock)) (by (with_reducible repeat (first | apply ZP | apply ZO | apply ZU)); exact Zw HO_6.out (fun _ hk => ⟨hk.1.2, hk.2⟩)) hg hat)
     have n1_ := Aside0.mk (Kd.S_after (ok := (fun k_ => some k_ ≠ (.slice Ao30 x6_1.length co30 : Value).ownBlock ∧ some k_ ≠ (v523 : Value).ownBlock)) (rS_ HO_505001.out) hg hat)
     have n2_ := Aside0.mk (ZT (bq_ BK493.out) hg (Kd.R_ne HO514.out BK493.out (by decide)))
     have n3_ := Aside0.mk (ZT (bq_ BK504.out) hg (Kd.R_ne HO514.out BK504.out (by decide)))
     have n4_ := Aside0.mk (IsS93.grown (by repeat (first | (with_reducible first | exact HI497.out | apply IsS93.alloc | apply IsS93.drewN | apply IsS93.drew | apply IsS93.set_1 | apply IsS93.set_2 | refine IsS93.far ?_ NB497_493.out _ | refine IsS93.far ?_ NB497_504.out _) | exact HI497.out)) hg (IsS93.own_ne HI497.out HO514.out (by decide)))
     have n5_ := Aside0.mk (Kd.R_after (ok := (fun k_ => some k_ ≠ (.slice Ao30 x6_1.length co30 : Value).ownBlock)) (by (with_reducible repeat (first | apply ZP | apply ZO | apply ZU)); exact Zw HO524.out (fun _ hk => ⟨hk.1.2, hk.2⟩)) hg hat)
     have n6_ := Aside0.mk (hb)
     have n7_ := Aside0.mk ((show Kd.C (Kd.int .i64) w36 Ao30 y515.length y515 from by rw [Ny515.out]; exact Kd.C_take (m := (t509 : Int).toNat) ((ZF (Kd.R_after (ok := (fun k_ => some k_ ≠ (v523 : Value).ownBlock)) (by (with_reducible repeat (first | apply ZP | apply ZO | apply ZU)); exact Zw HO_6.out (fun _ hk => ⟨hk.1.2, hk.2⟩)) hg hat)).2.2) KL29.out))
     have n8_ := Aside0.mk ((show Kd.C (Kd.int .i64) w36 A31 y528.length y528 from by rw [Ny528.out, KA31.out]; exact Kd.C_drop (m := (t509 : Int).toNat) (c := co30) ((ZF (Kd.R_after (ok := (fun k_ => some k_ ≠ (v523 : Value).ownBlock)) (by (with_reducible repeat (first | apply ZP | apply ZO | apply ZU)); exact Zw HO_6.out (fun _ hk => ⟨hk.1.2, hk.2⟩)) hg hat)).2.2) KL31.out ((ZF (Kd.R_after (ok := (fun k_ => some k_ ≠ (v523 : Value).ownBlock)) (by (with_reducible repeat (first | apply ZP | apply ZO | apply ZU)); exact Zw HO_6.out (fun _ hk => ⟨hk.1.2, hk.2⟩)) hg hat)).2.1)))
     have n9_ := Aside0.mk (ho)
     clear HO_6
     clear HO_505001
     clear BK493
     clear BK504
     clear HI497
     clear HO524
     clear HB
     clear HR518
     clear HR531
     clear HO514
     have HO_6 := n0_
     have HO_505001 := n1_
     have BK493 := n2_
     have BK504 := n3_
     have HI497 := n4_
     have HO524 := n5_
     have HB := n6_
     have HR518 := n7_
     have HR531 := n8_
     have HO521 := n9_
     clear n0_ n1_ n2_ n3_ n4_ n5_ n6_ n7_ n8_ n9_
     clear ho hb hg hat
     refine hK.out _ _ trivial (fun hHeld => ?_)
     clear hK K
     refine no_ 29 ?_
     exact norm_ (by simp only [putAll, Act.put, ZW, List.set_cons_zero, List.set_cons_succ]) (hCont (v513, v520, v523) _ ⟨(by (with_reducible repeat (first | apply ZP | apply ZO | apply ZU)); exact Zw HO521.out (fun _ hk => ⟨hk.2, hk.1⟩)), (by (with_reducible repeat (first | apply ZP | apply ZO | apply ZU)); exact Zw HO524.out (fun _ hk => ⟨hk.2, hk.1⟩)), (by (with_reducible repeat (first | apply Zs | apply Zr | apply Zp)); exact Zt HO_505001.out (fun _ hk => ⟨hk.2, ⟨hk.1.2, hk.1.1⟩⟩)), (by (with_reducible repeat (first | apply ZP | apply ZO | apply ZU)); exact Zw HO_6.out (fun _ hk => ⟨hk.2, hk.1⟩)), (cf_ HR518.out), (cf_ HR531.out), (bk_ BK493.out), (bk_ BK504.out), (by repeat (first | (with_reducible first | exact HI497.out | apply IsS93.alloc | apply IsS93.drewN | apply IsS93.drew | apply IsS93.set_1 | apply IsS93.set_2 | refine IsS93.far ?_ NB497_493.out _ | refine IsS93.far ?_ NB497_504.out _) | exact HI497.out)), (by repeat (first | (with_reducible first | exact HB.out | apply Zk | apply Zi | apply Zj | refine Zc ?_ (IsS93.ge HI497.out) | refine Zc ?_ GE493.out | refine Zc ?_ GE504.out) | exact HB.out))⟩)
    skip
    refine Kd.R_lit_step (Kd.int .i64) _ 3 ?hg (N := 25) ?hd (xs := ([] : List Int)) (inner := []) (ok := fun _ => True) (okp := fun _ => True) ?hr ?hp (fun _ hk => hk) trivial (Below.refl _ _) (Nat.le_refl _) (by simp) ?_; (case hd => rfl); (case hg => rfl); (case hr => first | (go_simp; done) | (go_simp; rfl)); (case hp => exact (Reps.none _ _))
    intro v513 w32 ho33 hb hg_ hnew_
    clear hg_ hnew_
    (first | rw [← Ny512.out] at ho33 | (simp only [Int.reduceToNat] at ho33; rw [← Ny512.out] at ho33))
    replace HO_505001 := Aside0.mk (Kd.S_elder' (rS_ HO_505001.out) (Kd.R_base ho33) hb)
    have HO514 := Aside0.mk (Kd.R_lower (Kd.R_new' ho33 (Kd.R_lt (rR_ HO_6.out))) (Zm (by repeat (first | (with_reducible first | exact HB.out | apply Zk | apply Zi | apply Zj | refine Zc ?_ (IsS93.ge HI497.out) | refine Zc ?_ GE493.out | refine Zc ?_ GE504.out) | exact HB.out))))
    replace HO_6 := Aside0.mk (Kd.R_elder' (rR_ HO_6.out) (Kd.R_base ho33) hb)
    replace BK493 := Aside0.mk (Zg (bq_ BK493.out) hb)
    replace BK504 := Aside0.mk (Zg (bq_ BK504.out) hb)
    replace HR518 := Aside0.mk (Kd.C_below (cf_ HR518.out) hb)
    replace HR531 := Aside0.mk (Kd.C_below (cf_ HR531.out) hb)
    replace HB := Aside0.mk (Zh (by repeat (first | (with_reducible first | exact HB.out | apply Zk | apply Zi | apply Zj | refine Zc ?_ (IsS93.ge HI497.out) | refine Zc ?_ GE493.out | refine Zc ?_ GE504.out) | exact HB.out)) hb)
    replace HI497 := Aside0.mk (IsS93.below (by repeat (first | (with_reducible first | exact HI497.out | apply IsS93.alloc | apply IsS93.drewN | apply IsS93.drew | apply IsS93.set_1 | apply IsS93.set_2 | refine IsS93.far ?_ NB497_493.out _ | refine IsS93.far ?_ NB497_504.out _) | exact HI497.out)) hb)
    clear hb ho33
    refine hK.out _ _ trivial (fun hHeld => ?_)
    clear hK K
    refine no_ 25 ?_
    refine two_ (i := 4) (j := 6) (Ni := some 29) (Nj := some 31) (m_ 13 1855) (m_ 13 1903) rfl rfl rfl rfl (two_of HT_.out (by kernel_rfl)) (by decide) (by decide) (fun K hK => ?_) (fun K hK => ?_)
    ·skip
     refine Kd.R_append_rows_step (Kd.int .i64) (w0 := w) w.heap.size (by rfl) (.tmp 25) (.tmp 28) 31 3 (.int .i64 0) 8 rfl Try.underlying31 info3 rfl (by decide) (by omega) v513 y512 y515 _ _ _ (fun k_ => some k_ ≠ (.slice Ao30 x6_1.length co30 : Value).ownBlock) (fun _ => False) rfl rfl ?aO ?aR (fun _ _ h => h) (fun _ h => h.elim) ?aF ?aB ?aS ?aL ?_
     (case aR => repeat (first | exact (cf_ HR518.out) | (with_reducible refine ZM ?_ _) | (with_reducible refine ZH ?_ _) | (with_reducible refine ZQ ?_)))
     (case aB => exact (by repeat (first | (with_reducible first | exact HB.out | apply Zk | apply Zi | apply Zj | refine Zc ?_ (IsS93.ge HI497.out) | refine Zc ?_ GE493.out | refine Zc ?_ GE504.out) | exact HB.out)))
     (case aF => exact (fun k_ hk => Kd.fresh' (Kd.R_lt (rR_ HO_6.out)) k_ hk))
     (case aO => exact (by (with_reducible repeat (first | apply ZP | apply ZO | apply ZU)); exact Zw HO514.out (fun _ hk => hk.2)))
     (case aS => exact (Zm (by repeat (first | (with_reducible first | exact HB.out | apply Zk | apply Zi | apply Zj | refine Zc ?_ (IsS93.ge HI497.out) | refine Zc ?_ GE493.out | refine Zc ?_ GE504.out) | exact HB.out))))
     (case aL => have := LMc19.out; omega)
     intro v520 w34 ho hb hg hat
     rw [← Ny519.out] at ho
     have n0_ := Aside0.mk (Kd.R_after (ok := (fun _ => True)) (rR_ HO_6.out) hg hat)
     have n1_ := Aside0.mk (Kd.S_after (ok := (fun k_ => some k_ ≠ (.slice Ao30 x6_1.length co30 : Value).ownBlock)) (rS_ HO_505001.out) hg hat)
     have n2_ := Aside0.mk (ZT (bq_ BK493.out) hg (Kd.R_ne HO514.out BK493.out (by decide)))
     have n3_ := Aside0.mk (ZT (bq_ BK504.out) hg (Kd.R_ne HO514.out BK504.out (by decide)))
     have n4_ := Aside0.mk (IsS93.grown (by repeat (first | (with_reducible first | exact HI497.out | apply IsS93.alloc | apply IsS93.drewN | apply IsS93.drew | apply IsS93.set_1 | apply IsS93.set_2 | refine IsS93.far ?_ NB497_493.out _ | refine IsS93.far ?_ NB497_504.out _) | exact HI497.out)) hg (IsS93.own_ne HI497.out HO514.out (by decide)))
     have n5_ := Aside0.mk (hb)
     have n6_ := Aside0.mk ((show Kd.C (Kd.int .i64) w34 Ao30 y515.length y515 from by rw [Ny515.out]; exact Kd.C_take (m := (t509 : Int).toNat) ((ZF (Kd.R_after (ok := (fun _ => True)) (rR_ HO_6.out) hg hat)).2.2) KL29.out))
     have n7_ := Aside0.mk ((show Kd.C (Kd.int .i64) w34 A31 y528.length y528 from by rw [Ny528.out, KA31.out]; exact Kd.C_drop (m := (t509 : Int).toNat) (c := co30) ((ZF (Kd.R_after (ok := (fun _ => True)) (rR_ HO_6.out) hg hat)).2.2) KL31.out ((ZF (Kd.R_after (ok := (fun _ => True)) (rR_ HO_6.out) hg hat)).2.1)))
     have n8_ := Aside0.mk (ho)
     clear HO_6
     clear HO_505001
     clear BK493
     clear BK504
     clear HI497
     clear HB
     clear HR518
     clear HR531
     clear HO514
     have HO_6 := n0_
     have HO_505001 := n1_
     have BK493 := n2_
     have BK504 := n3_
     have HI497 := n4_
     have HB := n5_
     have HR518 := n6_
     have HR531 := n7_
     have HO521 := n8_
     clear n0_ n1_ n2_ n3_ n4_ n5_ n6_ n7_ n8_
     clear ho hb hg hat
     refine hK.out _ _ trivial (fun hHeld => ?_)
     clear hK K
     refine no_ 29 ?_
     refine on_ 6 31 (m_ 13 1919) (fun K hK => ?_)
     refine Kd.R_lit_step (Kd.int .i64) _ 3 ?hg (N := 31) ?hd (xs := ([x7_1] : List Int)) (inner := [.int .i64 x7_1]) (ok := fun _ => True) (okp := fun _ => True) ?hr ?hp (fun _ hk => hk) trivial (Below.refl _ _) (Nat.le_refl _) (by simp) ?_; (case hd => rfl); (case hg => rfl); (case hr => first | (go_simp; done) | (go_simp; rfl)); (case hp => exact (Reps.one (show Kd.M (Kd.int .i64) _ _ _ x7_1 [.int .i64 x7_1] from rfl) (Reps.none _ _)))
     intro v523 w35 ho36 hb hg_ hnew_
     clear hg_ hnew_
     (first | rw [← Ny522.out] at ho36 | (simp only [Int.reduceToNat] at ho36; rw [← Ny522.out] at ho36))
     replace HO_505001 := Aside0.mk (Kd.S_elder' (rS_ HO_505001.out) (Kd.R_base ho36) hb)
     have HO524 := Aside0.mk (Kd.R_lower (Kd.R_new' (Kd.R_new' ho36 (Kd.R_lt (rR_ HO_6.out))) (Kd.R_lt (rR_ HO521.out))) (Zm (by repeat (first | (with_reducible first | exact HB.out | apply Zk | apply Zi | apply Zj | refine Zc ?_ (IsS93.ge HI497.out) | refine Zc ?_ GE493.out | refine Zc ?_ GE504.out) | exact HB.out))))
     replace HO_6 := Aside0.mk (Kd.R_elder' (rR_ HO_6.out) (Kd.R_base ho36) hb)
     replace HO521 := Aside0.mk (Kd.R_elder' (rR_ HO521.out) (Kd.R_base ho36) hb)
     replace BK493 := Aside0.mk (Zg (bq_ BK493.out) hb)
     replace BK504 := Aside0.mk (Zg (bq_ BK504.out) hb)
     replace HR518 := Aside0.mk (Kd.C_below (cf_ HR518.out) hb)
     replace HR531 := Aside0.mk (Kd.C_below (cf_ HR531.out) hb)
     replace HB := Aside0.mk (Zh (by repeat (first | (with_reducible first | exact HB.out | apply Zk | apply Zi | apply Zj | refine Zc ?_ (IsS93.ge HI497.out) | refine Zc ?_ GE493.out | refine Zc ?_ GE504.out) | exact HB.out)) hb)
     replace HI497 := Aside0.mk (IsS93.below (by repeat (first | (with_reducible first | exact HI497.out | apply IsS93.alloc | apply IsS93.drewN | apply IsS93.drew | apply IsS93.set_1 | apply IsS93.set_2 | refine IsS93.far ?_ NB497_493.out _ | refine IsS93.far ?_ NB497_504.out _) | exact HI497.out)) hb)
     clear hb ho36
     refine hK.out _ _ trivial (fun hHeld => ?_)
     clear hK K
     refine no_ 31 ?_
     exact norm_ (by simp only [putAll, Act.put, ZW, List.set_cons_zero, List.set_cons_succ]) (hCont (v513, v520, v523) _ ⟨(by (with_reducible repeat (first | apply ZP | apply ZO | apply ZU)); exact Zw HO521.out (fun _ hk => ⟨hk.2, hk.1⟩)), (by (with_reducible repeat (first | apply ZP | apply ZO | apply ZU)); exact Zw HO524.out (fun _ hk => ⟨hk.2, hk.1.2⟩)), (by (with_reducible repeat (first | apply Zs | apply Zr | apply Zp)); exact Zt HO_505001.out (fun _ hk => ⟨hk.1.2, ⟨hk.2, hk.1.1⟩⟩)), (by (with_reducible repeat (first | apply ZP | apply ZO | apply ZU)); exact Zw HO_6.out (fun _ hk => ⟨hk.1.2, hk.2⟩)), (cf_ HR518.out), (cf_ HR531.out), (bk_ BK493.out), (bk_ BK504.out), (by repeat (first | (with_reducible first | exact HI497.out | apply IsS93.alloc | apply IsS93.drewN | apply IsS93.drew | apply IsS93.set_1 | apply IsS93.set_2 | refine IsS93.far ?_ NB497_493.out _ | refine IsS93.far ?_ NB497_504.out _) | exact HI497.out)), (by repeat (first | (with_reducible first | exact HB.out | apply Zk | apply Zi | apply Zj | refine Zc ?_ (IsS93.ge HI497.out) | refine Zc ?_ GE493.out | refine Zc ?_ GE504.out) | exact HB.out))⟩)
    skip
    refine Kd.R_lit_step (Kd.int .i64) _ 3 ?hg (N := 31) ?hd (xs := ([x7_1] : List Int)) (inner := [.int .i64 x7_1]) (ok := fun _ => True) (okp := fun _ => True) ?hr ?hp (fun _ hk => hk) trivial (Below.refl _ _) (Nat.le_refl _) (by simp) ?_; (case hd => rfl); (case hg => rfl); (case hr => first | (go_simp; done) | (go_simp; rfl)); (case hp => exact (Reps.one (show Kd.M (Kd.int .i64) _ _ _ x7_1 [.int .i64 x7_1] from rfl) (Reps.none _ _)))
    intro v523 w34 ho35 hb hg_ hnew_
    clear hg_ hnew_
    (first | rw [← Ny522.out] at ho35 | (simp only [Int.reduceToNat] at ho35; rw [← Ny522.out] at ho35))
    replace HO_505001 := Aside0.mk (Kd.S_elder' (rS_ HO_505001.out) (Kd.R_base ho35) hb)
    have HO524 := Aside0.mk (Kd.R_lower (Kd.R_new' (Kd.R_new' ho35 (Kd.R_lt (rR_ HO_6.out))) (Kd.R_lt (rR_ HO514.out))) (Zm (by repeat (first | (with_reducible first | exact HB.out | apply Zk | apply Zi | apply Zj | refine Zc ?_ (IsS93.ge HI497.out) | refine Zc ?_ GE493.out | refine Zc ?_ GE504.out) | exact HB.out))))
    replace HO_6 := Aside0.mk (Kd.R_elder' (rR_ HO_6.out) (Kd.R_base ho35) hb)
    replace HO514 := Aside0.mk (Kd.R_elder' (rR_ HO514.out) (Kd.R_base ho35) hb)
    replace BK493 := Aside0.mk (Zg (bq_ BK493.out) hb)
    replace BK504 := Aside0.mk (Zg (bq_ BK504.out) hb)
    replace HR518 := Aside0.mk (Kd.C_below (cf_ HR518.out) hb)
    replace HR531 := Aside0.mk (Kd.C_below (cf_ HR531.out) hb)
    replace HB := Aside0.mk (Zh (by repeat (first | (with_reducible first | exact HB.out | apply Zk | apply Zi | apply Zj | refine Zc ?_ (IsS93.ge HI497.out) | refine Zc ?_ GE493.out | refine Zc ?_ GE504.out) | exact HB.out)) hb)
    replace HI497 := Aside0.mk (IsS93.below (by repeat (first | (with_reducible first | exact HI497.out | apply IsS93.alloc | apply IsS93.drewN | apply IsS93.drew | apply IsS93.set_1 | apply IsS93.set_2 | refine IsS93.far ?_ NB497_493.out _ | refine IsS93.far ?_ NB497_504.out _) | exact HI497.out)) hb)
    clear hb ho35
    refine hK.out _ _ trivial (fun hHeld => ?_)
    clear hK K
    refine no_ 31 ?_
    refine on_ 4 29 (m_ 13 1919) (fun K hK => ?_)
    refine Kd.R_append_rows_step (Kd.int .i64) (w0 := w) w.heap.size (by rfl) (.tmp 25) (.tmp 28) 31 3 (.int .i64 0) 8 rfl Try.underlying31 info3 rfl (by decide) (by omega) v513 y512 y515 _ _ _ (fun k_ => some k_ ≠ (.slice Ao30 x6_1.length co30 : Value).ownBlock ∧ some k_ ≠ (v523 : Value).ownBlock) (fun _ => False) rfl rfl ?aO ?aR (fun _ _ h => h) (fun _ h => h.elim) ?aF ?aB ?aS ?aL ?_
    (case aR => repeat (first | exact (cf_ HR518.out) | (with_reducible refine ZM ?_ _) | (with_reducible refine ZH ?_ _) | (with_reducible refine ZQ ?_)))
    (case aB => exact (by repeat (first | (with_reducible first | exact HB.out | apply Zk | apply Zi | apply Zj | refine Zc ?_ (IsS93.ge HI497.out) | refine Zc ?_ GE493.out | refine Zc ?_ GE504.out) | exact HB.out)))
    (case aF => exact (fun k_ hk => ⟨Kd.fresh' (Kd.R_lt (rR_ HO_6.out)) k_ hk, Kd.fresh' (Kd.R_lt (rR_ HO524.out)) k_ hk⟩))
    (case aO => exact (by (with_reducible repeat (first | apply ZP | apply ZO | apply ZU)); exact Zw HO514.out (fun _ hk => ⟨hk.1.2, hk.2⟩)))
    (case aS => exact (Zm (by repeat (first | (with_reducible first | exact HB.out | apply Zk | apply Zi | apply Zj | refine Zc ?_ (IsS93.ge HI497.out) | refine Zc ?_ GE493.out | refine Zc ?_ GE504.out) | exact HB.out))))
    (case aL => have := LMc19.out; omega)
    intro v520 w36 ho hb hg hat
    rw [← Ny519.out] at ho
    have n0_ := Aside0.mk (Kd.R_after (ok := (fun k_ => some k_ ≠ (v523 : Value).ownBlock)) (by (with_reducible repeat (first | apply ZP | apply ZO | apply ZU)); exact Zw HO_6.out (fun _ hk => ⟨hk.2, hk.1.2⟩)) hg hat)
    have n1_ := Aside0.mk (Kd.S_after (ok := (fun k_ => some k_ ≠ (.slice Ao30 x6_1.length co30 : Value).ownBlock ∧ some k_ ≠ (v523 : Value).ownBlock)) (by (with_reducible repeat (first | apply Zs | apply Zr | apply Zp)); exact Zt HO_505001.out (fun _ hk => ⟨⟨hk.1.1, hk.2⟩, hk.1.2⟩)) hg hat)
    have n2_ := Aside0.mk (ZT (bq_ BK493.out) hg (Kd.R_ne HO514.out BK493.out (by decide)))
    have n3_ := Aside0.mk (ZT (bq_ BK504.out) hg (Kd.R_ne HO514.out BK504.out (by decide)))
    have n4_ := Aside0.mk (IsS93.grown (by repeat (first | (with_reducible first | exact HI497.out | apply IsS93.alloc | apply IsS93.drewN | apply IsS93.drew | apply IsS93.set_1 | apply IsS93.set_2 | refine IsS93.far ?_ NB497_493.out _ | refine IsS93.far ?_ NB497_504.out _) | exact HI497.out)) hg (IsS93.own_ne HI497.out HO514.out (by decide)))
    have n5_ := Aside0.mk (Kd.R_after (ok := (fun k_ => some k_ ≠ (.slice Ao30 x6_1.length co30 : Value).ownBlock)) (by (with_reducible repeat (first | apply ZP | apply ZO | apply ZU)); exact Zw HO524.out (fun _ hk => ⟨hk.1.2, hk.2⟩)) hg hat)
    have n6_ := Aside0.mk (hb)
    have n7_ := Aside0.mk ((show Kd.C (Kd.int .i64) w36 Ao30 y515.length y515 from by rw [Ny515.out]; exact Kd.C_take (m := (t509 : Int).toNat) ((ZF (Kd.R_after (ok := (fun k_ => some k_ ≠ (v523 : Value).ownBlock)) (by (with_reducible repeat (first | apply ZP | apply ZO | apply ZU)); exact Zw HO_6.out (fun _ hk => ⟨hk.2, hk.1.2⟩)) hg hat)).2.2) KL29.out))
    have n8_ := Aside0.mk ((show Kd.C (Kd.int .i64) w36 A31 y528.length y528 from by rw [Ny528.out, KA31.out]; exact Kd.C_drop (m := (t509 : Int).toNat) (c := co30) ((ZF (Kd.R_after (ok := (fun k_ => some k_ ≠ (v523 : Value).ownBlock)) (by (with_reducible repeat (first | apply ZP | apply ZO | apply ZU)); exact Zw HO_6.out (fun _ hk => ⟨hk.2, hk.1.2⟩)) hg hat)).2.2) KL31.out ((ZF (Kd.R_after (ok := (fun k_ => some k_ ≠ (v523 : Value).ownBlock)) (by (with_reducible repeat (first | apply ZP | apply ZO | apply ZU)); exact Zw HO_6.out (fun _ hk => ⟨hk.2, hk.1.2⟩)) hg hat)).2.1)))
    have n9_ := Aside0.mk (ho)
    clear HO_6
    clear HO_505001
    clear BK493
    clear BK504
    clear HI497
    clear HO524
    clear HB
    clear HR518
    clear HR531
    clear HO514
    have HO_6 := n0_
    have HO_505001 := n1_
    have BK493 := n2_
    have BK504 := n3_
    have HI497 := n4_
    have HO524 := n5_
    have HB := n6_
    have HR518 := n7_
    have HR531 := n8_
    have HO521 := n9_
    clear n0_ n1_ n2_ n3_ n4_ n5_ n6_ n7_ n8_ n9_
    clear ho hb hg hat
    refine hK.out _ _ trivial (fun hHeld => ?_)
    clear hK K
    refine no_ 29 ?_
    exact norm_ (by simp only [putAll, Act.put, ZW, List.set_cons_zero, List.set_cons_succ]) (hCont (v513, v520, v523) _ ⟨(by (with_reducible repeat (first | apply ZP | apply ZO | apply ZU)); exact Zw HO521.out (fun _ hk => ⟨hk.2, hk.1⟩)), (by (with_reducible repeat (first | apply ZP | apply ZO | apply ZU)); exact Zw HO524.out (fun _ hk => ⟨hk.2, hk.1⟩)), (by (with_reducible repeat (first | apply Zs | apply Zr | apply Zp)); exact Zt HO_505001.out (fun _ hk => ⟨hk.2, ⟨hk.1.2, hk.1.1⟩⟩)), (by (with_reducible repeat (first | apply ZP | apply ZO | apply ZU)); exact Zw HO_6.out (fun _ hk => ⟨hk.2, hk.1⟩)), (cf_ HR518.out), (cf_ HR531.out), (bk_ BK493.out), (bk_ BK504.out), (by repeat (first | (with_reducible first | exact HI497.out | apply IsS93.alloc | apply IsS93.drewN | apply IsS93.drew | apply IsS93.set_1 | apply IsS93.set_2 | refine IsS93.far ?_ NB497_493.out _ | refine IsS93.far ?_ NB497_504.out _) | exact HI497.out)), (by repeat (first | (with_reducible first | exact HB.out | apply Zk | apply Zi | apply Zj | refine Zc ?_ (IsS93.ge HI497.out) | refine Zc ?_ GE493.out | refine Zc ?_ GE504.out) | exact HB.out))⟩)
   rintro ⟨v513, v520, v523⟩ w37 ⟨h0_, h1_, h2_, h3_, h4_, h5_, h6_, h7_, h8_, h9_⟩
   have n0_ : Aside0 (Kd.R (Kd.int .i64) 3 w37 w.heap.size (fun k_ => some k_ ≠ (v523 : Value).ownBlock ∧ some k_ ≠ (.slice Ao30 x6_1.length co30 : Value).ownBlock) v520 y519) := ⟨h0_⟩
   have n1_ : Aside0 (Kd.R (Kd.int .i64) 3 w37 w.heap.size (fun k_ => some k_ ≠ (v520 : Value).ownBlock ∧ some k_ ≠ (.slice Ao30 x6_1.length co30 : Value).ownBlock) v523 y522) := ⟨h1_⟩
   have n2_ : Aside0 (Kd.S (Kd.slice 3 (Kd.int .i64)) 31 w37 w.heap.size (fun k_ => some k_ ≠ (v520 : Value).ownBlock ∧ some k_ ≠ (v523 : Value).ownBlock ∧ some k_ ≠ (.slice Ao30 x6_1.length co30 : Value).ownBlock) (.slice Ao11 t499.length co11) t499) := ⟨h2_⟩
   have n3_ : Aside0 (Kd.R (Kd.int .i64) 3 w37 w.heap.size (fun k_ => some k_ ≠ (v520 : Value).ownBlock ∧ some k_ ≠ (v523 : Value).ownBlock) (.slice Ao30 x6_1.length co30) x6_1) := ⟨h3_⟩
   have n4_ : Aside0 (Kd.C (Kd.int .i64) w37 Ao30 y515.length y515) := ⟨h4_⟩
   have n5_ : Aside0 (Kd.C (Kd.int .i64) w37 A31 y528.length y528) := ⟨h5_⟩
   have n6_ : Aside0 (w37.heap[gb493]? = some (.cells #[.int .i64 0, .slice none 0 0] 27 (0, 0))) := ⟨h6_⟩
   have n7_ : Aside0 (w37.heap[gb504]? = some (.cells #[.int .i64 t498, .slice Ao11 t499.length co11] 27 (0, 0))) := ⟨h7_⟩
   have n8_ : Aside0 (IsS93 w w37 g497 t494 t510 t511) := ⟨h8_⟩
   have n9_ : Aside0 (Below w.heap.size w w37) := ⟨h9_⟩
   clear HO_6
   clear HO_505001
   clear BK493
   clear BK504
   clear HI497
   clear HB
   (try clear HR518)
   (try clear HR531)
   clear h0_ h1_ h2_ h3_ h4_ h5_ h6_ h7_ h8_ h9_
   have HO521 := n0_
   have HO524 := n1_
   have HO_505001 := n2_
   have HO_6 := n3_
   have HR518 := n4_
   have HR531 := n5_
   have BK493 := n6_
   have BK504 := n7_
   have HI497 := n8_
   have HB := n9_
   clear n0_ n1_ n2_ n3_ n4_ n5_ n6_ n7_ n8_ n9_
   have hHeld := trivial
   obtain ⟨Ao39, co39, eo39⟩ := Kd.R_slice HO524.out
   (first | subst eo39 | (injection eo39 with f1_ f2_ f3_; have f4_ := f1_.symm; have f5_ := f3_.symm; clear f1_ f2_ f3_; subst f4_; subst f5_))
   refine norm_ (a' := ?_) ?_ ?_
   rotate_left
   ·simp only [putAll, Act.put, ZW, List.set_cons_zero, List.set_cons_succ]
    rfl
   refine on_ 7 32 (m_ 13 2047) (fun K hK => ?_)
   refine Kd.R_append_rows_step (Kd.int .i64) (w0 := w) w.heap.size (by rfl) (.tmp 29) (.tmp 31) 31 3 (.int .i64 0) 8 rfl Try.underlying31 info3 rfl (by decide) (by omega) v520 y519 y522 _ _ _ (fun k_ => some k_ ≠ (.slice Ao30 x6_1.length co30 : Value).ownBlock ∧ some k_ ≠ (.slice Ao39 y522.length co39 : Value).ownBlock) (fun _ => False) rfl rfl ?aO ?aR (fun _ _ h => h) (fun _ h => h.elim) ?aF ?aB ?aS ?aL ?_
   (case aR => repeat (first | exact (ZF HO524.out).2.2 | (with_reducible refine ZM ?_ _) | (with_reducible refine ZH ?_ _) | (with_reducible refine ZQ ?_)))
   (case aB => exact (by repeat (first | (with_reducible first | exact HB.out | apply Zk | apply Zi | apply Zj | refine Zc ?_ (IsS93.ge HI497.out) | refine Zc ?_ GE493.out | refine Zc ?_ GE504.out) | exact HB.out)))
   (case aF => exact (fun k_ hk => ⟨Kd.fresh' (Kd.R_lt (rR_ HO_6.out)) k_ hk, Kd.fresh' (Kd.R_lt (rR_ HO524.out)) k_ hk⟩))
   (case aO => exact (by (with_reducible repeat (first | apply ZP | apply ZO | apply ZU)); exact Zw HO521.out (fun _ hk => ⟨hk.2, hk.1⟩)))
   (case aS => exact (Zm (by repeat (first | (with_reducible first | exact HB.out | apply Zk | apply Zi | apply Zj | refine Zc ?_ (IsS93.ge HI497.out) | refine Zc ?_ GE493.out | refine Zc ?_ GE504.out) | exact HB.out))))
   (case aL => have := LMc20.out; omega)
   intro v526 w38 ho hb hg hat
   rw [← Ny525.out] at ho
   have n0_ := Aside0.mk (Kd.R_after (ok := (fun k_ => some k_ ≠ (.slice Ao39 y522.length co39 : Value).ownBlock)) (by (with_reducible repeat (first | apply ZP | apply ZO | apply ZU)); exact Zw HO_6.out (fun _ hk => ⟨hk.2, hk.1⟩)) hg hat)
   have n1_ := Aside0.mk (Kd.S_after (ok := (fun k_ => some k_ ≠ (.slice Ao30 x6_1.length co30 : Value).ownBlock ∧ some k_ ≠ (.slice Ao39 y522.length co39 : Value).ownBlock)) (by (with_reducible repeat (first | apply Zs | apply Zr | apply Zp)); exact Zt HO_505001.out (fun _ hk => ⟨⟨hk.2.2, hk.2.1⟩, hk.1⟩)) hg hat)
   have n2_ := Aside0.mk (ZT (bq_ BK493.out) hg (Kd.R_ne HO521.out BK493.out (by decide)))
   have n3_ := Aside0.mk (ZT (bq_ BK504.out) hg (Kd.R_ne HO521.out BK504.out (by decide)))
   have n4_ := Aside0.mk (IsS93.grown (by repeat (first | (with_reducible first | exact HI497.out | apply IsS93.alloc | apply IsS93.drewN | apply IsS93.drew | apply IsS93.set_1 | apply IsS93.set_2 | refine IsS93.far ?_ NB497_493.out _ | refine IsS93.far ?_ NB497_504.out _) | exact HI497.out)) hg (IsS93.own_ne HI497.out HO521.out (by decide)))
   have n5_ := Aside0.mk (Kd.R_after (ok := (fun k_ => some k_ ≠ (.slice Ao30 x6_1.length co30 : Value).ownBlock)) (by (with_reducible repeat (first | apply ZP | apply ZO | apply ZU)); exact Zw HO524.out (fun _ hk => ⟨hk.2, hk.1⟩)) hg hat)
   have n6_ := Aside0.mk (hb)
   have n7_ := Aside0.mk ((show Kd.C (Kd.int .i64) w38 Ao30 y515.length y515 from by rw [Ny515.out]; exact Kd.C_take (m := (t509 : Int).toNat) ((ZF (Kd.R_after (ok := (fun k_ => some k_ ≠ (.slice Ao39 y522.length co39 : Value).ownBlock)) (by (with_reducible repeat (first | apply ZP | apply ZO | apply ZU)); exact Zw HO_6.out (fun _ hk => ⟨hk.2, hk.1⟩)) hg hat)).2.2) KL29.out))
   have n8_ := Aside0.mk ((show Kd.C (Kd.int .i64) w38 A31 y528.length y528 from by rw [Ny528.out, KA31.out]; exact Kd.C_drop (m := (t509 : Int).toNat) (c := co30) ((ZF (Kd.R_after (ok := (fun k_ => some k_ ≠ (.slice Ao39 y522.length co39 : Value).ownBlock)) (by (with_reducible repeat (first | apply ZP | apply ZO | apply ZU)); exact Zw HO_6.out (fun _ hk => ⟨hk.2, hk.1⟩)) hg hat)).2.2) KL31.out ((ZF (Kd.R_after (ok := (fun k_ => some k_ ≠ (.slice Ao39 y522.length co39 : Value).ownBlock)) (by (with_reducible repeat (first | apply ZP | apply ZO | apply ZU)); exact Zw HO_6.out (fun _ hk => ⟨hk.2, hk.1⟩)) hg hat)).2.1)))
   have n9_ := Aside0.mk (ho)
   clear HO_6
   clear HO_505001
   clear BK493
   clear BK504
   clear HI497
   clear HO524
   clear HB
   clear HR518
   clear HR531
   clear HO521
   have HO_6 := n0_
   have HO_505001 := n1_
   have BK493 := n2_
   have BK504 := n3_
   have HI497 := n4_
   have HO524 := n5_
   have HB := n6_
   have HR518 := n7_
   have HR531 := n8_
   have HO527 := n9_
   clear n0_ n1_ n2_ n3_ n4_ n5_ n6_ n7_ n8_ n9_
   clear ho hb hg hat
   refine hK.out _ _ trivial (fun hHeld => ?_)
   clear hK K
   refine no_ 32 ?_
   refine on_ 11 36 (m_ 13 4095) (fun K hK => ?_)
   refine Kd.R_append_rows_step (Kd.int .i64) (w0 := w) w.heap.size (by rfl) (.tmp 32) (.tmp 35) 31 3 (.int .i64 0) 8 rfl Try.underlying31 info3 rfl (by decide) (by omega) v526 y525 y528 _ _ _ (fun k_ => some k_ ≠ (.slice Ao30 x6_1.length co30 : Value).ownBlock ∧ some k_ ≠ (.slice Ao39 y522.length co39 : Value).ownBlock) (fun _ => False) rfl rfl ?aO ?aR (fun _ _ h => h) (fun _ h => h.elim) ?aF ?aB ?aS ?aL ?_
   (case aR => repeat (first | exact (cf_ HR531.out) | (with_reducible refine ZM ?_ _) | (with_reducible refine ZH ?_ _) | (with_reducible refine ZQ ?_)))
   (case aB => exact (by repeat (first | (with_reducible first | exact HB.out | apply Zk | apply Zi | apply Zj | refine Zc ?_ (IsS93.ge HI497.out) | refine Zc ?_ GE493.out | refine Zc ?_ GE504.out) | exact HB.out)))
   (case aF => exact (fun k_ hk => ⟨Kd.fresh' (Kd.R_lt (rR_ HO_6.out)) k_ hk, Kd.fresh' (Kd.R_lt (rR_ HO524.out)) k_ hk⟩))
   (case aO => exact (rR_ HO527.out))
   (case aS => exact (Zm (by repeat (first | (with_reducible first | exact HB.out | apply Zk | apply Zi | apply Zj | refine Zc ?_ (IsS93.ge HI497.out) | refine Zc ?_ GE493.out | refine Zc ?_ GE504.out) | exact HB.out))))
   (case aL => have := LMc23.out; omega)
   intro v533 w40 ho hb hg hat
   rw [← Ny532.out] at ho
   have n0_ := Aside0.mk (Kd.R_after (ok := (fun k_ => some k_ ≠ (.slice Ao39 y522.length co39 : Value).ownBlock)) (rR_ HO_6.out) hg hat)
   have n1_ := Aside0.mk (Kd.S_after (ok := (fun k_ => some k_ ≠ (.slice Ao30 x6_1.length co30 : Value).ownBlock ∧ some k_ ≠ (.slice Ao39 y522.length co39 : Value).ownBlock)) (rS_ HO_505001.out) hg hat)
   have n2_ := Aside0.mk (ZT (bq_ BK493.out) hg (Kd.R_ne HO527.out BK493.out (by decide)))
   have n3_ := Aside0.mk (ZT (bq_ BK504.out) hg (Kd.R_ne HO527.out BK504.out (by decide)))
   have n4_ := Aside0.mk (IsS93.grown (by repeat (first | (with_reducible first | exact HI497.out | apply IsS93.alloc | apply IsS93.drewN | apply IsS93.drew | apply IsS93.set_1 | apply IsS93.set_2 | refine IsS93.far ?_ NB497_493.out _ | refine IsS93.far ?_ NB497_504.out _) | exact HI497.out)) hg (IsS93.own_ne HI497.out HO527.out (by decide)))
   have n5_ := Aside0.mk (Kd.R_after (ok := (fun k_ => some k_ ≠ (.slice Ao30 x6_1.length co30 : Value).ownBlock)) (rR_ HO524.out) hg hat)
   have n6_ := Aside0.mk (hb)
   have n7_ := Aside0.mk ((show Kd.C (Kd.int .i64) w40 Ao30 y515.length y515 from by rw [Ny515.out]; exact Kd.C_take (m := (t509 : Int).toNat) ((ZF (Kd.R_after (ok := (fun k_ => some k_ ≠ (.slice Ao39 y522.length co39 : Value).ownBlock)) (rR_ HO_6.out) hg hat)).2.2) KL29.out))
   have n8_ := Aside0.mk ((show Kd.C (Kd.int .i64) w40 A31 y528.length y528 from by rw [Ny528.out, KA31.out]; exact Kd.C_drop (m := (t509 : Int).toNat) (c := co30) ((ZF (Kd.R_after (ok := (fun k_ => some k_ ≠ (.slice Ao39 y522.length co39 : Value).ownBlock)) (rR_ HO_6.out) hg hat)).2.2) KL31.out ((ZF (Kd.R_after (ok := (fun k_ => some k_ ≠ (.slice Ao39 y522.length co39 : Value).ownBlock)) (rR_ HO_6.out) hg hat)).2.1)))
   have n9_ := Aside0.mk (ho)
   clear HO_6
   clear HO_505001
   clear BK493
   clear BK504
   clear HI497
   clear HO524
   clear HB
   clear HR518
   clear HR531
   clear HO527
   have HO_6 := n0_
   have HO_505001 := n1_
   have BK493 := n2_
   have BK504 := n3_
   have HI497 := n4_
   have HO524 := n5_
   have HB := n6_
   have HR518 := n7_
   have HR531 := n8_
   have HO534 := n9_
   clear n0_ n1_ n2_ n3_ n4_ n5_ n6_ n7_ n8_ n9_
   clear ho hb hg hat
   refine hK.out _ _ trivial (fun hHeld => ?_)
   clear hK K
   refine no_ 36 ?_
   refine pu_ 12 6 (m_ 13 8191) ?_
   refine done_ (done_of HT_.out (by kernel_rfl)) ?_
   try go_wp2
   go_roundg k1
   case measure => have := HK1.out; omega
   case rel => exact ⟨(y532), (wrap64 (x7_1 + 1)), (t510), (t511), sm_, H', ⟨by have := HK1.out; omega⟩, ⟨by (with_reducible repeat (first | apply ZP | apply ZO | apply ZU)); exact Zw HO534.out (fun _ hk => trivial)⟩, ⟨by (with_reducible repeat (first | apply Zs | apply Zr | apply Zp)); exact Zt HO_505001.out (fun _ hk => hk.2)⟩, ⟨bk_ BK493.out⟩, ⟨bk_ BK504.out⟩, ⟨by repeat (first | (with_reducible first | exact HI497.out | apply IsS93.alloc | apply IsS93.drewN | apply IsS93.drew | apply IsS93.set_1 | apply IsS93.set_2 | refine IsS93.far ?_ NB497_493.out _ | refine IsS93.far ?_ NB497_504.out _) | exact HI497.out)⟩, ⟨by repeat (first | (with_reducible first | exact HB.out | apply Zk | apply Zi | apply Zj | refine Zc ?_ (IsS93.ge HI497.out) | refine Zc ?_ GE493.out | refine Zc ?_ GE504.out) | exact HB.out)⟩⟩

end Go.Proofs.Ytdlobolnajcfnaa.PFnDisputes
