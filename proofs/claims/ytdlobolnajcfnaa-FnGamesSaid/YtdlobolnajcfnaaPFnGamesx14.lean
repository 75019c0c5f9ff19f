-- Written by a program of this session (hooks of mine on the print): Lean checks it.
import Derived.Test.YtdlobolnajcfnaaPFnGamesx0
import Derived.Test.YtdlobolnajcfnaaPFnGamesx9
import Derived.Test.YtdlobolnajcfnaaPFnGamesx10
import Derived.Test.YtdlobolnajcfnaaPFnGamesx13
namespace Go.Proofs.Ytdlobolnajcfnaa.PFnGames
open Go.RowKit Go.Proofs.YtdlobolnajcfnaaW.PrintWords Go.Proofs.YtdlobolnajcfnaaW.PrintLast Go.Proofs.YtdlobolnajcfnaaW.PrintMore
attribute [local go_sem] max2_int min2_int max_two min_two max_three min_three max_four min_four   -- for this text's walks alone
set_option linter.unusedVariables false
set_option linter.unusedSimpArgs false

/-! ### spec_DrawAnswersTo: function 85 -/
def spec_DrawAnswersTo.f (k : Nat) (l0 : List Int) : Option (Int × (List (List Int)) × List Int × Int) := (spec_l1New.f k l0).bind fun bt382 => ((spec_l8Small.f k bt382.1 bt382.2.1 bt382.2.2).bind fun bt386 => ((spec_l1Below.f bt382.1 bt386.2.2.1 bt386.2.2.2 5).bind fun bt393 => ((spec_l1Below.f bt382.1 bt393.2.1 bt393.2.2 5).bind fun bt396 => ((spec_l1Below.f bt382.1 bt396.2.1 bt396.2.2 6).bind fun bt402 => (some (bt386.1, bt386.2.1, (([bt393.1, bt396.1] : List Int)), bt402.1))))))
theorem spec_DrawAnswersTo.mono : ∀ a0 k, LeO (spec_DrawAnswersTo.f k a0) (spec_DrawAnswersTo.f (k + 1) a0) := by
 intro a0 k
 unfold spec_DrawAnswersTo.f
 repeat' first
   | (with_reducible exact spec_l1New.mono _ _)
   | (with_reducible exact spec_l8Small.mono _ _ _ _)
   | (with_reducible exact ZJ _)
   | (with_reducible exact Zn _)
   | (with_reducible refine Zt ?_ ?_)
   | (with_reducible refine Zo ?_ (fun _ => ?_))
   | exact spec_l1New.mono _ _
   | exact spec_l8Small.mono _ _ _ _
   | exact Zn _
   | refine Zt ?_ ?_
   | refine Zo ?_ (fun _ => ?_)
def spec_DrawAnswersTo.T3 : Bool × List (List Nat × List Nat) := (true, [([], []), ([], []), ([1], [1]), ([], []), ([3, 2], [3]), ([2, 4], [2, 4]), ([], []), ([6, 4], [6]), ([0, 7, 0], [0]), ([5, 8, 0, 1, 2, 3, 4, 5, 8], [5]), ([7, 9, 0, 1, 2, 3, 4, 5, 6, 7, 8, 9], [7])])
def spec_DrawAnswersTo.B3 : List Nat := [0, 0, 2, 0, 14, 30, 0, 94, 223, 511, 1023]
theorem spec_DrawAnswersTo.tab3 : rtab .any (opsOf Try.f85 3) = spec_DrawAnswersTo.T3 := by kernel_rfl
theorem spec_DrawAnswersTo.bits3 : waitsOk spec_DrawAnswersTo.T3.2 spec_DrawAnswersTo.B3 = true := by kernel_rfl
set_option maxHeartbeats 8000000 in
set_option maxRecDepth 100000 in
theorem spec_DrawAnswersTo.calls (k : Nat) (A0 : Option Addr) (c0 : Nat) (l0 : List Int) (r1 : Int) (r2 : List (List Int)) (r3 : List Int) (r4 : Int) (w : World) (hr0 : Kd.C (Kd.int .u8) w A0 l0.length l0) (hc0 : l0.length ≤ c0) (h : spec_DrawAnswersTo.f k l0 = some (r1, r2, r3, r4)) :
  Calls Try.prog 85 #[.slice A0 l0.length c0] w fun e w' => ∃ v1_ v2_ : Value, e = .returned (.tuple #[.agg #[.int .i64 r1, v1_], v2_, .int .i64 r4]) ∧ Kd.S (Kd.slice 3 (Kd.int .i64)) 31 w' w.heap.size (fun k_ => some k_ ≠ (v2_ : Value).ownBlock) v1_ r2 ∧ Kd.R (Kd.int .i64) 3 w' w.heap.size (fun _ => True) v2_ r3 ∧ Below w.heap.size w w' := by
 have hu27 := Try.underlying27
 have HR0 := Aside0.mk hr0
 have HC0 := Aside0.mk hc0
 clear hr0 hc0
 have HB := Aside0.mk (Below.refl w.heap.size w)
 have H : ((spec_l1New.f k l0).bind fun bt382 => ((spec_l8Small.f k bt382.1 bt382.2.1 bt382.2.2).bind fun bt386 => ((spec_l1Below.f bt382.1 bt386.2.2.1 bt386.2.2.2 5).bind fun bt393 => ((spec_l1Below.f bt382.1 bt393.2.1 bt393.2.2 5).bind fun bt396 => ((spec_l1Below.f bt382.1 bt396.2.1 bt396.2.2 6).bind fun bt402 => (some (bt386.1, bt386.2.1, (([bt393.1, bt396.1] : List Int)), bt402.1))))))) = some (r1, r2, r3, r4) := h
 clear h
 replace H := Option.bind_eq_some_iff.mp H
 obtain ⟨⟨t382, t383, t384⟩, A20, H⟩ := H
 replace H : ((spec_l8Small.f k t382 t383 t384).bind fun bt386 => ((spec_l1Below.f t382 bt386.2.2.1 bt386.2.2.2 5).bind fun bt393 => ((spec_l1Below.f t382 bt393.2.1 bt393.2.2 5).bind fun bt396 => ((spec_l1Below.f t382 bt396.2.1 bt396.2.2 6).bind fun bt402 => (some (bt386.1, bt386.2.1, (([bt393.1, bt396.1] : List Int)), bt402.1)))))) = some (r1, r2, r3, r4) := H
 have A2 := Aside0.mk A20
 clear A20
 replace H := Option.bind_eq_some_iff.mp H
 obtain ⟨⟨t386, t387, t390, t391⟩, A30, H⟩ := H
 replace H : ((spec_l1Below.f t382 t390 t391 5).bind fun bt393 => ((spec_l1Below.f t382 bt393.2.1 bt393.2.2 5).bind fun bt396 => ((spec_l1Below.f t382 bt396.2.1 bt396.2.2 6).bind fun bt402 => (some (t386, t387, (([bt393.1, bt396.1] : List Int)), bt402.1))))) = some (r1, r2, r3, r4) := H
 have A3 := Aside0.mk A30
 clear A30
 replace H := Option.bind_eq_some_iff.mp H
 obtain ⟨⟨t393, t394, t395⟩, A40, H⟩ := H
 replace H : ((spec_l1Below.f t382 t394 t395 5).bind fun bt396 => ((spec_l1Below.f t382 bt396.2.1 bt396.2.2 6).bind fun bt402 => (some (t386, t387, (([t393, bt396.1] : List Int)), bt402.1)))) = some (r1, r2, r3, r4) := H
 have A4 := Aside0.mk A40
 clear A40
 replace H := Option.bind_eq_some_iff.mp H
 obtain ⟨⟨t396, t397, t398⟩, A50, H⟩ := H
 replace H : ((spec_l1Below.f t382 t397 t398 6).bind fun bt402 => (some (t386, t387, (([t393, t396] : List Int)), bt402.1))) = some (r1, r2, r3, r4) := H
 have A5 := Aside0.mk A50
 clear A50
 obtain ⟨y399, hy399⟩ : ∃ y_ : List Int, y_ = (([t393, t396] : List Int)) := ⟨_, rfl⟩
 replace H : ((spec_l1Below.f t382 t397 t398 6).bind fun bt402 => (some (t386, t387, y399, bt402.1))) = some (r1, r2, r3, r4) := hy_ hy399 H
 have Ny399 := Aside0.mk hy399
 clear hy399
 replace H := Option.bind_eq_some_iff.mp H
 obtain ⟨⟨t402, t403, t404⟩, A60, H⟩ := H
 replace H : (some (t386, t387, y399, t402)) = some (r1, r2, r3, r4) := H
 have A6 := Aside0.mk A60
 clear A60
 simp only [Option.some.injEq, Prod.mk.injEq] at H
 obtain ⟨rfl, rfl, rfl, rfl⟩ := H
 go_enter Try.func85, Try.ntmps85
 try go_wp2_with (first | ((with_reducible refine ZD (N := 2) rfl ?_); refine ZH ?hg (N := 2) ?hd (cs := #[.int .i64 0, .slice none 0 0]) (t := 27) ?hr ?_; (case hd => rfl); (case hg => rfl); (case hr => first | (go_simp; done) | (go_simp; rfl)); intro gb381 hg w7 hbox hb; have BK381 := Aside0.mk (hbox); have GW381 := Aside0.mk ((hz_ hg : w.heap.size ≤ gb381)); have GE381 := Aside0.mk ((hz_ hg : w.heap.size ≤ gb381)); replace HB := Aside0.mk (Ze hB_ hb); clear hb hbox hg) | ((with_reducible refine Zj (f := 82) rfl ?_); refine ZE (some 8) rfl rfl Try.func82 (by kernel_rfl) rfl #[.slice A0 l0.length c0] rfl ar_ ?_; (with_reducible refine (spec_l1New.calls k _ _ l0 t382 t383 t384 w _ ?side1 ?side2 ?side3 A2.out).mono ?_); (case side1 => repeat (first | (with_reducible first | exact HB.out | apply Zq | apply Zm | apply Zi | refine Zh ?_ GE381.out) | exact HB.out)); (case side2 => exact HR0.out); (case side3 => exact HC0.out); rintro e w8 ⟨g385, rfl, hi, hb, hb2⟩; refine ⟨_, rfl, ?_⟩; replace HB := Aside0.mk (hb); have HI385 := Aside0.mk (hi); have NB385_381 := Aside0.mk (IsS93.ne_blk hi (Zc (g := gb381) (o := .cells #[.int .i64 0, .slice none 0 0] 27 (0, 0)) (bk_ BK381.out) hb2) (by decide)); have NB381_385 := Aside0.mk (Ne.symm (IsS93.ne_blk hi (Zc (g := gb381) (o := .cells #[.int .i64 0, .slice none 0 0] 27 (0, 0)) (bk_ BK381.out) hb2) (by decide))); replace BK381 := Aside0.mk (Zc (g := gb381) (o := .cells #[.int .i64 0, .slice none 0 0] 27 (0, 0)) (bk_ BK381.out) hb2); (try clear hb); (try clear hb2); (try clear hk); (try clear hi)) | ((with_reducible refine Zj (f := 83) rfl ?_); refine ZE (some 10) rfl rfl Try.func83 (by kernel_rfl) rfl #[.pointer (some ⟨g385, 0, none⟩)] rfl ar_ ?_; (with_reducible refine (spec_l8Small.calls k g385 t382 t383 t384 t386 t387 t390 t391 w _ ?side1 ?side2 A3.out).mono ?_); (case side1 => repeat (first | (with_reducible first | exact HI385.out | apply IsS93.alloc | apply IsS93.drewN | apply IsS93.drew | apply IsS93.set_1 | apply IsS93.set_2 | refine IsS93.far ?_ NB385_381.out _) | exact HI385.out)); (case side2 => repeat (first | (with_reducible first | exact HB.out | apply Zq | apply Zm | apply Zi | refine Zh ?_ (IsS93.ge HI385.out) | refine Zh ?_ GE381.out) | exact HB.out)); rintro e w9 ⟨v388, rfl, ho0, hi, hb, hk⟩; refine ⟨_, rfl, ?_⟩; replace BK381 := Aside0.mk (KeepBut.blk hk (g' := gb381) (o := .cells #[.int .i64 0, .slice none 0 0] 27 (0, 0)) (bk_ BK381.out) NB381_385.out (by simp)); have HO389 := Aside0.mk (Kd.S_lower ho0 (Zl (by repeat (first | (with_reducible first | exact HB.out | apply Zq | apply Zm | apply Zi | refine Zh ?_ (IsS93.ge HI385.out) | refine Zh ?_ GE381.out) | exact HB.out)))); replace HB := Aside0.mk (hb); replace HI385 := Aside0.mk (hi); (try clear hb); (try clear hb2); (try clear hk); (try clear hi); (try clear ho0)) | ((with_reducible refine ZD (N := 6) rfl ?_); refine ZH ?hg (N := 6) ?hd (cs := #[.int .i64 0, .slice none 0 0]) (t := 27) ?hr ?_; (case hd => rfl); (case hg => rfl); (case hr => first | (go_simp; done) | (go_simp; rfl)); intro gb392 hg w10 hbox hb; replace HO389 := Aside0.mk (Zk (rS_ HO389.out) hb); have BK392 := Aside0.mk (hbox); have GW392 := Aside0.mk ((by rw [hg]; exact (Zl (by repeat (first | (with_reducible first | exact HB.out | apply Zq | apply Zm | apply Zi | refine Zh ?_ (IsS93.ge HI385.out) | refine Zh ?_ GE381.out) | exact HB.out))) : w.heap.size ≤ gb392)); have GE392 := Aside0.mk ((by rw [hg]; exact (Zl (by repeat (first | (with_reducible first | exact HB.out | apply Zq | apply Zm | apply Zi | refine Zh ?_ (IsS93.ge HI385.out) | refine Zh ?_ GE381.out) | exact HB.out))) : w.heap.size ≤ gb392)); replace HB := Aside0.mk (Ze (by repeat (first | (with_reducible first | exact HB.out | apply Zq | apply Zm | apply Zi | refine Zh ?_ (IsS93.ge HI385.out) | refine Zh ?_ GE381.out) | exact HB.out)) hb); have NB381_392 := Aside0.mk ((by rw [hg]; exact Nat.ne_of_lt (blk_lt (g := gb381) (o := .cells #[.int .i64 0, .slice none 0 0] 27 (0, 0)) (bk_ BK381.out)) : gb381 ≠ gb392)); have NB392_381 := Aside0.mk ((by rw [hg]; exact Nat.ne_of_gt (blk_lt (g := gb381) (o := .cells #[.int .i64 0, .slice none 0 0] 27 (0, 0)) (bk_ BK381.out)) : gb392 ≠ gb381)); replace BK381 := Aside0.mk (Zc (g := gb381) (o := .cells #[.int .i64 0, .slice none 0 0] 27 (0, 0)) (bk_ BK381.out) hb); have NB385_392 := Aside0.mk ((by rw [hg]; exact Nat.ne_of_lt (IsS93.lt (show IsS93 w _ g385 t382 t390 t391 from by repeat (first | (with_reducible first | exact HI385.out | apply IsS93.alloc | apply IsS93.drewN | apply IsS93.drew | apply IsS93.set_1 | apply IsS93.set_2 | refine IsS93.far ?_ NB385_381.out _) | exact HI385.out))) : g385 ≠ gb392)); have NB392_385 := Aside0.mk ((by rw [hg]; exact Nat.ne_of_gt (IsS93.lt (show IsS93 w _ g385 t382 t390 t391 from by repeat (first | (with_reducible first | exact HI385.out | apply IsS93.alloc | apply IsS93.drewN | apply IsS93.drew | apply IsS93.set_1 | apply IsS93.set_2 | refine IsS93.far ?_ NB385_381.out _) | exact HI385.out))) : gb392 ≠ g385)); replace HI385 := Aside0.mk (IsS93.below (by repeat (first | (with_reducible first | exact HI385.out | apply IsS93.alloc | apply IsS93.drewN | apply IsS93.drew | apply IsS93.set_1 | apply IsS93.set_2 | refine IsS93.far ?_ NB385_381.out _) | exact HI385.out)) hb); clear hb hbox hg; have hnb11 := NB392_381.out; have hnc11 := NB381_392.out; have hnb12 := NB392_385.out; have hnc12 := NB385_392.out; have hcz13_0 : w10.cell? ⟨gb392, 0, none⟩ = some (.int .i64 0) := (Za BK392.out 0).trans rfl; have hcz13_1 : w10.cell? ⟨gb392, 1, none⟩ = some (.slice none 0 0) := (Za BK392.out 1).trans rfl; have hfz13_0 := Zb BK392.out 0; have hfz13_1 := Zb BK392.out 1; obtain ⟨Ao14, co14, eo14⟩ := Kd.S_slice HO389.out; subst eo14))
 have n0_ : Aside0 (Kd.S (Kd.slice 3 (Kd.int .i64)) 31 ((w10.setCell ⟨gb392, 0, none⟩ (.int .i64 t386)).setCell ⟨gb392, 1, none⟩ (.slice Ao14 t387.length co14)) w.heap.size (fun _ => True) (.slice Ao14 t387.length co14) t387) := ⟨by (with_reducible repeat (first | apply Zy | apply Zx | apply Zr)); exact Zs (Zw (p := ⟨gb392, 1, none⟩) (Zw (p := ⟨gb392, 0, none⟩) (ZC HO389.out BK392.out (by decide)) (fun _ hk => hk.2) (.int .i64 t386)) (fun _ hk => hk.2) (.slice Ao14 t387.length co14)) (fun _ hk => trivial)⟩
 have n1_ : Aside0 (((w10.setCell ⟨gb392, 0, none⟩ (.int .i64 t386)).setCell ⟨gb392, 1, none⟩ (.slice Ao14 t387.length co14)).heap[gb381]? = some (.cells #[.int .i64 0, .slice none 0 0] 27 (0, 0))) := ⟨by (with_reducible repeat (first | refine Zg ?_ _ | refine Zd ?_ | refine Zf ?_ _)); refine ZK ?_ NB381_392.out _; (with_reducible repeat (first | refine Zg ?_ _ | refine Zd ?_ | refine Zf ?_ _)); refine ZK ?_ NB381_392.out _; (with_reducible repeat (first | refine Zg ?_ _ | refine Zd ?_ | refine Zf ?_ _)); exact BK381.out⟩
 have n2_ : Aside0 (((w10.setCell ⟨gb392, 0, none⟩ (.int .i64 t386)).setCell ⟨gb392, 1, none⟩ (.slice Ao14 t387.length co14)).heap[gb392]? = some (.cells #[.int .i64 t386, .slice Ao14 t387.length co14] 27 (0, 0))) := ⟨by (with_reducible repeat (first | refine Zg ?_ _ | refine Zd ?_ | refine Zf ?_ _)); refine ZT (cs := #[.int .i64 t386, .slice none 0 0]) ?_ 1 _ rfl; (with_reducible repeat (first | refine Zg ?_ _ | refine Zd ?_ | refine Zf ?_ _)); refine ZT (cs := #[.int .i64 0, .slice none 0 0]) ?_ 0 _ rfl; (with_reducible repeat (first | refine Zg ?_ _ | refine Zd ?_ | refine Zf ?_ _)); exact BK392.out⟩
 have n3_ : Aside0 (IsS93 w ((w10.setCell ⟨gb392, 0, none⟩ (.int .i64 t386)).setCell ⟨gb392, 1, none⟩ (.slice Ao14 t387.length co14)) g385 t382 t390 t391) := ⟨by repeat (first | (with_reducible first | exact HI385.out | apply IsS93.alloc | apply IsS93.drewN | apply IsS93.drew | apply IsS93.set_1 | apply IsS93.set_2 | refine IsS93.far ?_ NB385_381.out _ | refine IsS93.far ?_ NB385_392.out _) | exact HI385.out)⟩
 have n4_ : Aside0 (Below w.heap.size w ((w10.setCell ⟨gb392, 0, none⟩ (.int .i64 t386)).setCell ⟨gb392, 1, none⟩ (.slice Ao14 t387.length co14))) := ⟨by repeat (first | (with_reducible first | exact HB.out | apply Zq | apply Zm | apply Zi | refine Zh ?_ (IsS93.ge HI385.out) | refine Zh ?_ GE381.out | refine Zh ?_ GE392.out) | exact HB.out)⟩
 (try clear HO389)
 (try clear BK381)
 (try clear BK392)
 (try clear HI385)
 (try clear HB)
 generalize ((w10.setCell ⟨gb392, 0, none⟩ (.int .i64 t386)).setCell ⟨gb392, 1, none⟩ (.slice Ao14 t387.length co14)) = w15 at n0_ n1_ n2_ n3_ n4_ ⊢
 have HO389 := n0_
 have BK381 := n1_
 have BK392 := n2_
 have HI385 := n3_
 have HB := n4_
 clear n0_ n1_ n2_ n3_ n4_
 replace HO389 := Aside0.mk (Zr HO389.out)
 replace BK381 := Aside0.mk (Zd BK381.out)
 replace BK392 := Aside0.mk (Zd BK392.out)
 replace HI385 := Aside0.mk (IsS93.drew HI385.out)
 replace HB := Aside0.mk (Zi HB.out)
 refine start_ (n := 11) (S := fun w' => True) (ds := []) #[O,O,O,O,O,O,O,O,O,O,O] (by kernel_rfl) rfl rfl trivial (fun hHeld => ?_); refine with_tabW spec_DrawAnswersTo.tab3 spec_DrawAnswersTo.bits3 (fun HT_ HW_ => ?_)
 generalize w15.drew = w16 at HO389 BK381 BK392 HI385 HB hHeld ⊢
 refine pu_ 1 12 #[O,Y,O,O,O,O,O,O,O,O,O] ?_
 refine pu_ 3 14 #[O,Y,O,Y,O,O,O,O,O,O,O] ?_
 refine pu_ 6 17 #[O,Y,O,Y,O,O,Y,O,O,O,O] ?_
 refine inv_at [0, 2, 4, 5, 7, 8, 9, 10] (fun a0_ b a w' => ∃ (v400 : Value) (m9_ : Value), a = putSel a0_ b [(0, 11, .agg #[.int .i64 t386, .slice Ao14 t387.length co14]), (2, 13, .int .i64 t393), (4, 15, .int .i64 t396), (5, 16, v400), (7, 18, .int .i64 t402), (9, 3, m9_), (10, 4, .int .i64 t402)] ∧ (Kd.S (Kd.slice 3 (Kd.int .i64)) 31 w' w.heap.size (fun k_ => b 5 = true → some k_ ≠ (v400 : Value).ownBlock) (.slice Ao14 t387.length co14) t387) ∧ (b 8 = false → w'.heap[gb381]? = some (.cells #[.int .i64 0, .slice none 0 0] 27 (0, 0))) ∧ (w'.heap[gb392]? = some (.cells #[.int .i64 t386, .slice Ao14 t387.length co14] 27 (0, 0))) ∧ (b 2 = false → IsS93 w w' g385 t382 t390 t391) ∧ (Below w.heap.size w w') ∧ (b 2 = true → b 4 = false → IsS93 w w' g385 t382 t394 t395) ∧ (b 4 = true → b 7 = false → IsS93 w w' g385 t382 t397 t398) ∧ (b 5 = true → Kd.R (Kd.int .i64) 3 w' w.heap.size (fun _ => True) v400 y399) ∧ (b 7 = true → IsS93 w w' g385 t382 t403 t404) ∧ (b 8 = true → w'.heap[gb381]? = some (.cells #[.int .i64 t386, .slice Ao14 t387.length co14] 27 (0, 0))) ∧ (b 9 = true → (m9_ : Value) = v400)) HT_.out HW_.out (by kernel_rfl) (by kernel_rfl) ?_ ?_ ?_
 ·exact ⟨.bool false, .bool false, by simp only [putSel, Bool.false_eq_true, if_false], Zs HO389.out (fun _ _ h_ => absurd h_ (by decide)), fun _ => BK381.out, BK392.out, fun _ => HI385.out, HB.out, fun h_ => absurd h_ (by decide), fun h_ => absurd h_ (by decide), fun h_ => absurd h_ (by decide), fun h_ => absurd h_ (by decide), fun h_ => absurd h_ (by decide), fun h_ => absurd h_ (by decide)⟩
 ·skip
  clear BK381 BK392 HB HI385 HO389
  refine steps_cons ?_ ?_
  ·rintro b a w' ⟨v400, m9_, ha, Q_HO389, Q_BK381, Q_BK392, Q_HI385, Q_HB, Q_HI385_e2, Q_HI385_e4, Q_HO401, Q_HI385_e7, Q_BK381_e8, Q_X9_⟩ hb_ hon hoff
   refine ⟨_, rfl, fun K hK => ?_⟩
   have e6 : a.tmps[6]? = some (.pointer (some ⟨gb392, 0, none⟩)) := by rw [ha]; exact (putSel_off rfl).trans rfl
   replace ha := Aside0.mk ha
   have HO389 := Aside0.mk Q_HO389
   have BK381 := Aside0.mk (Q_BK381 (hoff 8 (by kernel_rfl)))
   have BK392 := Aside0.mk Q_BK392
   have HB := Aside0.mk Q_HB
   have hc0_ : w'.cell? ⟨gb392, 0, none⟩ = some (.int .i64 t386) := (Za BK392.out 0).trans rfl
   have hc1_ : w'.cell? ⟨gb392, 1, none⟩ = some (.slice Ao14 t387.length co14) := (Za BK392.out 1).trans rfl
   refine value_ (w1 := w') (v := .agg #[.int .i64 t386, .slice Ao14 t387.length co14]) (by rfl) rfl ?_ ?_
   ·go_simp
    (try simp only [i64_w])
    try rfl
   refine hK.out _ _ ⟨v400, m9_, (by rw [ha.out]; exact putSel_upk 0 hb_ rfl rfl rfl), Q_HO389, Q_BK381, Q_BK392, Q_HI385, Q_HB, Q_HI385_e2, Q_HI385_e4, Q_HO401, Q_HI385_e7, fun h0_ => absurd ((hoff 8 (by kernel_rfl)).symm.trans h0_) (by decide), fun h0_ => absurd ((hoff 9 (by kernel_rfl)).symm.trans h0_) (by decide)⟩
  refine steps_cons ?_ ?_
  ·rintro b a w' ⟨v400, m9_, ha, Q_HO389, Q_BK381, Q_BK392, Q_HI385, Q_HB, Q_HI385_e2, Q_HI385_e4, Q_HO401, Q_HI385_e7, Q_BK381_e8, Q_X9_⟩ hb_ hon hoff
   refine ⟨_, rfl, fun K hK => ?_⟩
   have e12 : a.tmps[12]? = some (.pointer (some ⟨g385, 0, none⟩)) := by rw [ha]; exact (putSel_off rfl).trans rfl
   replace ha := Aside0.mk ha
   have HO389 := Aside0.mk Q_HO389
   have BK381 := Aside0.mk (Q_BK381 (hoff 8 (by kernel_rfl)))
   have BK392 := Aside0.mk Q_BK392
   have HI385 := Aside0.mk (Q_HI385 hb_)
   have HB := Aside0.mk Q_HB
   refine goes_ Try.func84 (by kernel_rfl) rfl #[.pointer (some ⟨g385, 0, none⟩), .int .i64 5] (by rfl) rfl rfl (by first | (simp only [List.map_toArray, List.map_cons, List.map_nil, Act.eval, Array.getD_eq_getD_getElem?, Option.getD_some, e12]; done) | (simp only [List.map_toArray, List.map_cons, List.map_nil, Act.eval, Array.getD_eq_getD_getElem?, Option.getD_some, e12]; rfl)) ?_
   with_reducible refine (spec_l1Below.calls g385 t382 t390 t391 5 t393 t394 t395 w _ ?side1 ?side2 A4.out).mono ?_
   (case side1 => repeat (first | (with_reducible first | exact HI385.out | apply IsS93.alloc | apply IsS93.drewN | apply IsS93.drew | apply IsS93.set_1 | apply IsS93.set_2 | refine IsS93.far ?_ NB385_381.out _ | refine IsS93.far ?_ NB385_392.out _) | exact HI385.out))
   (case side2 => repeat (first | (with_reducible first | exact HB.out | apply Zq | apply Zm | apply Zi | refine Zh ?_ (IsS93.ge HI385.out) | refine Zh ?_ GE381.out | refine Zh ?_ GE392.out) | exact HB.out))
   rintro e w17 ⟨rfl, hi, hb, hk⟩
   refine ⟨_, rfl, ?_⟩
   replace BK381 := Aside0.mk (KeepBut.blk hk (g' := gb381) (o := .cells #[.int .i64 0, .slice none 0 0] 27 (0, 0)) (bk_ BK381.out) NB381_385.out (by simp))
   replace HO389 := Aside0.mk (Zs (Kd.S_keep (IsS93.apartS (show IsS93 w _ g385 t382 t390 t391 from by repeat (first | (with_reducible first | exact HI385.out | apply IsS93.alloc | apply IsS93.drewN | apply IsS93.drew | apply IsS93.set_1 | apply IsS93.set_2 | refine IsS93.far ?_ NB385_381.out _ | refine IsS93.far ?_ NB385_392.out _) | exact HI385.out)) (rS_ HO389.out) (by decide)) hk (fun _ h => h.2)) (fun _ h => h.1))
   replace BK392 := Aside0.mk (KeepBut.blk hk (g' := gb392) (o := .cells #[.int .i64 t386, .slice Ao14 t387.length co14] 27 (0, 0)) (bk_ BK392.out) NB392_385.out (by simp))
   replace HB := Aside0.mk (hb)
   replace HI385 := Aside0.mk (hi)
   (try clear hb)
   (try clear hb2)
   (try clear hk)
   (try clear hi)
   refine hK.out _ _ ⟨v400, m9_, (by rw [ha.out]; exact putSel_upk 1 hb_ rfl rfl rfl), (rS_ HO389.out), fun _ => (bk_ BK381.out), (bk_ BK392.out), fun h0_ => absurd ((up_self b 2).symm.trans h0_) (by decide), (by repeat (first | (with_reducible first | exact HB.out | apply Zq | apply Zm | apply Zi | refine Zh ?_ (IsS93.ge HI385.out) | refine Zh ?_ GE381.out | refine Zh ?_ GE392.out) | exact HB.out)), fun _ _ => (by repeat (first | (with_reducible first | exact HI385.out | apply IsS93.alloc | apply IsS93.drewN | apply IsS93.drew | apply IsS93.set_1 | apply IsS93.set_2 | refine IsS93.far ?_ NB385_381.out _ | refine IsS93.far ?_ NB385_392.out _) | exact HI385.out)), fun h0_ _ => absurd ((hoff 4 (by kernel_rfl)).symm.trans h0_) (by decide), fun h0_ => absurd ((hoff 5 (by kernel_rfl)).symm.trans h0_) (by decide), fun h0_ => absurd ((hoff 7 (by kernel_rfl)).symm.trans h0_) (by decide), fun h0_ => absurd ((hoff 8 (by kernel_rfl)).symm.trans h0_) (by decide), fun h0_ => absurd ((hoff 9 (by kernel_rfl)).symm.trans h0_) (by decide)⟩
  refine steps_cons ?_ ?_
  ·rintro b a w' ⟨v400, m9_, ha, Q_HO389, Q_BK381, Q_BK392, Q_HI385, Q_HB, Q_HI385_e2, Q_HI385_e4, Q_HO401, Q_HI385_e7, Q_BK381_e8, Q_X9_⟩ hb_ hon hoff
   refine ⟨_, rfl, fun K hK => ?_⟩
   have e14 : a.tmps[14]? = some (.pointer (some ⟨g385, 0, none⟩)) := by rw [ha]; exact (putSel_off rfl).trans rfl
   replace ha := Aside0.mk ha
   have HO389 := Aside0.mk Q_HO389
   have BK381 := Aside0.mk (Q_BK381 (hoff 8 (by kernel_rfl)))
   have BK392 := Aside0.mk Q_BK392
   have HB := Aside0.mk Q_HB
   have HI385 := Aside0.mk (Q_HI385_e2 (hon 2 (by kernel_rfl)) hb_)
   refine goes_ Try.func84 (by kernel_rfl) rfl #[.pointer (some ⟨g385, 0, none⟩), .int .i64 5] (by rfl) rfl rfl (by first | (simp only [List.map_toArray, List.map_cons, List.map_nil, Act.eval, Array.getD_eq_getD_getElem?, Option.getD_some, e14]; done) | (simp only [List.map_toArray, List.map_cons, List.map_nil, Act.eval, Array.getD_eq_getD_getElem?, Option.getD_some, e14]; rfl)) ?_
   with_reducible refine (spec_l1Below.calls g385 t382 t394 t395 5 t396 t397 t398 w _ ?side1 ?side2 A5.out).mono ?_
   (case side1 => repeat (first | (with_reducible first | exact HI385.out | apply IsS93.alloc | apply IsS93.drewN | apply IsS93.drew | apply IsS93.set_1 | apply IsS93.set_2 | refine IsS93.far ?_ NB385_381.out _ | refine IsS93.far ?_ NB385_392.out _) | exact HI385.out))
   (case side2 => repeat (first | (with_reducible first | exact HB.out | apply Zq | apply Zm | apply Zi | refine Zh ?_ (IsS93.ge HI385.out) | refine Zh ?_ GE381.out | refine Zh ?_ GE392.out) | exact HB.out))
   rintro e w19 ⟨rfl, hi, hb, hk⟩
   refine ⟨_, rfl, ?_⟩
   replace BK381 := Aside0.mk (KeepBut.blk hk (g' := gb381) (o := .cells #[.int .i64 0, .slice none 0 0] 27 (0, 0)) (bk_ BK381.out) NB381_385.out (by simp))
   replace HO389 := Aside0.mk (Zs (Kd.S_keep (IsS93.apartS (show IsS93 w _ g385 t382 t394 t395 from by repeat (first | (with_reducible first | exact HI385.out | apply IsS93.alloc | apply IsS93.drewN | apply IsS93.drew | apply IsS93.set_1 | apply IsS93.set_2 | refine IsS93.far ?_ NB385_381.out _ | refine IsS93.far ?_ NB385_392.out _) | exact HI385.out)) (rS_ HO389.out) (by decide)) hk (fun _ h => h.2)) (fun _ h => h.1))
   replace BK392 := Aside0.mk (KeepBut.blk hk (g' := gb392) (o := .cells #[.int .i64 t386, .slice Ao14 t387.length co14] 27 (0, 0)) (bk_ BK392.out) NB392_385.out (by simp))
   replace HB := Aside0.mk (hb)
   replace HI385 := Aside0.mk (hi)
   (try clear hb)
   (try clear hb2)
   (try clear hk)
   (try clear hi)
   refine hK.out _ _ ⟨v400, m9_, (by rw [ha.out]; exact putSel_upk 2 hb_ rfl rfl rfl), (rS_ HO389.out), fun _ => (bk_ BK381.out), (bk_ BK392.out), fun h0_ => absurd ((hon 2 (by kernel_rfl)).symm.trans h0_) (by decide), (by repeat (first | (with_reducible first | exact HB.out | apply Zq | apply Zm | apply Zi | refine Zh ?_ (IsS93.ge HI385.out) | refine Zh ?_ GE381.out | refine Zh ?_ GE392.out) | exact HB.out)), fun _ h1_ => absurd ((up_self b 4).symm.trans h1_) (by decide), fun _ _ => (by repeat (first | (with_reducible first | exact HI385.out | apply IsS93.alloc | apply IsS93.drewN | apply IsS93.drew | apply IsS93.set_1 | apply IsS93.set_2 | refine IsS93.far ?_ NB385_381.out _ | refine IsS93.far ?_ NB385_392.out _) | exact HI385.out)), fun h0_ => absurd ((hoff 5 (by kernel_rfl)).symm.trans h0_) (by decide), fun h0_ => absurd ((hoff 7 (by kernel_rfl)).symm.trans h0_) (by decide), fun h0_ => absurd ((hoff 8 (by kernel_rfl)).symm.trans h0_) (by decide), fun h0_ => absurd ((hoff 9 (by kernel_rfl)).symm.trans h0_) (by decide)⟩
  refine steps_cons ?_ ?_
  ·rintro b a w' ⟨v400, m9_, ha, Q_HO389, Q_BK381, Q_BK392, Q_HI385, Q_HB, Q_HI385_e2, Q_HI385_e4, Q_HO401, Q_HI385_e7, Q_BK381_e8, Q_X9_⟩ hb_ hon hoff
   refine ⟨_, rfl, fun K hK => ?_⟩
   have e13 : a.tmps[13]? = some (.int .i64 t393) := by rw [ha]; exact putSel_on (e := (2, 13, .int .i64 t393)) 1 rfl rfl (hon 2 (by kernel_rfl)) rfl
   have e15 : a.tmps[15]? = some (.int .i64 t396) := by rw [ha]; exact putSel_on (e := (4, 15, .int .i64 t396)) 2 rfl rfl (hon 4 (by kernel_rfl)) rfl
   replace ha := Aside0.mk ha
   have HO389 := Aside0.mk Q_HO389
   have BK392 := Aside0.mk Q_BK392
   have HB := Aside0.mk Q_HB
   refine Kd.R_lit_step (Kd.int .i64) _ 3 ?hg (N := 16) ?hd (xs := ([t393, t396] : List Int)) (inner := [.int .i64 t393, .int .i64 t396]) (ok := fun _ => True) (okp := fun _ => True) ?hr ?hp (fun _ hk => hk) trivial (Below.refl _ _) (Nat.le_refl _) (by simp) ?_; (case hd => rfl); (case hg => rfl); (case hr => first | (go_simp; done) | (go_simp; rfl)); (case hp => exact (Reps.one (show Kd.M (Kd.int .i64) _ _ _ t393 [.int .i64 t393] from rfl) (Reps.one (show Kd.M (Kd.int .i64) _ _ _ t396 [.int .i64 t396] from rfl) (Reps.none _ _))))
   intro v400 w20 ho21 hb hg_ hnew_
   clear hg_ hnew_
   (first | rw [← Ny399.out] at ho21 | (simp only [Int.reduceToNat] at ho21; rw [← Ny399.out] at ho21))
   have n0_ := Aside0.mk (Kd.S_elder' (rS_ HO389.out) (ZS ho21) hb)
   have n1_ := Aside0.mk (ZI ho21 (Zl hB_))
   have n4_ := Aside0.mk (Zc (g := gb392) (o := .cells #[.int .i64 t386, .slice Ao14 t387.length co14] 27 (0, 0)) (bk_ BK392.out) hb)
   have n5_ := Aside0.mk (Ze hB_ hb)
   have z_BK381 := fun (h0_ : b 8 = false) => (show w20.heap[gb381]? = some (.cells #[.int .i64 0, .slice none 0 0] 27 (0, 0)) from by first | exact (Zc (g := gb381) (o := .cells #[.int .i64 0, .slice none 0 0] 27 (0, 0)) (by (with_reducible repeat (first | refine Zg ?_ _ | refine Zd ?_ | refine Zf ?_ _)); exact (Q_BK381 h0_)) hb))
   have z_HI385_e4 := fun (h0_ : b 4 = true) (h1_ : b 7 = false) => (show IsS93 w w20 g385 t382 t397 t398 from by first | exact (IsS93.below (by repeat (first | (with_reducible first | exact (Q_HI385_e4 h0_ h1_) | apply IsS93.alloc | apply IsS93.drewN | apply IsS93.drew | apply IsS93.set_1 | apply IsS93.set_2 | refine IsS93.far ?_ NB385_381.out _ | refine IsS93.far ?_ NB385_392.out _) | exact (Q_HI385_e4 h0_ h1_))) hb))
   have z_HI385_e7 := fun (h0_ : b 7 = true) => (show IsS93 w w20 g385 t382 t403 t404 from by first | exact (IsS93.below (by repeat (first | (with_reducible first | exact (Q_HI385_e7 h0_) | apply IsS93.alloc | apply IsS93.drewN | apply IsS93.drew | apply IsS93.set_1 | apply IsS93.set_2 | refine IsS93.far ?_ NB385_381.out _ | refine IsS93.far ?_ NB385_392.out _) | exact (Q_HI385_e7 h0_))) hb))
   have z_BK381_e8 := fun (h0_ : b 8 = true) => (show w20.heap[gb381]? = some (.cells #[.int .i64 t386, .slice Ao14 t387.length co14] 27 (0, 0)) from by first | exact (Zc (g := gb381) (o := .cells #[.int .i64 t386, .slice Ao14 t387.length co14] 27 (0, 0)) (by (with_reducible repeat (first | refine Zg ?_ _ | refine Zd ?_ | refine Zf ?_ _)); exact (Q_BK381_e8 h0_)) hb))
   clear HO389
   clear BK392
   clear HB
   have HO389 := n0_
   have HO401 := n1_
   have BK392 := n4_
   have HB := n5_
   clear n0_ n1_ n4_ n5_
   clear hb ho21
   refine hK.out _ _ ⟨v400, m9_, (by rw [ha.out]; exact putSel_upk 3 hb_ rfl rfl rfl), (by (with_reducible repeat (first | apply Zy | apply Zx | apply Zr)); exact Zs HO389.out (fun _ hk _ => hk.2)), z_BK381, (bk_ BK392.out), fun h0_ => absurd ((hon 2 (by kernel_rfl)).symm.trans h0_) (by decide), hB_, fun _ h1_ => absurd ((hon 4 (by kernel_rfl)).symm.trans h1_) (by decide), z_HI385_e4, fun _ => (rR_ HO401.out), z_HI385_e7, z_BK381_e8, fun h0_ => absurd ((hoff 9 (by kernel_rfl)).symm.trans h0_) (by decide)⟩
  refine steps_cons ?_ ?_
  ·rintro b a w' ⟨v400, m9_, ha, Q_HO389, Q_BK381, Q_BK392, Q_HI385, Q_HB, Q_HI385_e2, Q_HI385_e4, Q_HO401, Q_HI385_e7, Q_BK381_e8, Q_X9_⟩ hb_ hon hoff
   refine ⟨_, rfl, fun K hK => ?_⟩
   have e17 : a.tmps[17]? = some (.pointer (some ⟨g385, 0, none⟩)) := by rw [ha]; exact (putSel_off rfl).trans rfl
   replace ha := Aside0.mk ha
   have HO389 := Aside0.mk Q_HO389
   have BK381 := Aside0.mk (Q_BK381 (hoff 8 (by kernel_rfl)))
   have BK392 := Aside0.mk Q_BK392
   have HB := Aside0.mk Q_HB
   have HI385 := Aside0.mk (Q_HI385_e4 (hon 4 (by kernel_rfl)) hb_)
   refine goes_ Try.func84 (by kernel_rfl) rfl #[.pointer (some ⟨g385, 0, none⟩), .int .i64 6] (by rfl) rfl rfl (by first | (simp only [List.map_toArray, List.map_cons, List.map_nil, Act.eval, Array.getD_eq_getD_getElem?, Option.getD_some, e17]; done) | (simp only [List.map_toArray, List.map_cons, List.map_nil, Act.eval, Array.getD_eq_getD_getElem?, Option.getD_some, e17]; rfl)) ?_
   with_reducible refine (spec_l1Below.calls g385 t382 t397 t398 6 t402 t403 t404 w _ ?side1 ?side2 A6.out).mono ?_
   (case side1 => repeat (first | (with_reducible first | exact HI385.out | apply IsS93.alloc | apply IsS93.drewN | apply IsS93.drew | apply IsS93.set_1 | apply IsS93.set_2 | refine IsS93.far ?_ NB385_381.out _ | refine IsS93.far ?_ NB385_392.out _) | exact HI385.out))
   (case side2 => repeat (first | (with_reducible first | exact HB.out | apply Zq | apply Zm | apply Zi | refine Zh ?_ (IsS93.ge HI385.out) | refine Zh ?_ GE381.out | refine Zh ?_ GE392.out) | exact HB.out))
   rintro e w20 ⟨rfl, hi, hb, hk⟩
   refine ⟨_, rfl, ?_⟩
   have n0_ := Aside0.mk (KeepBut.blk hk (g' := gb381) (o := .cells #[.int .i64 0, .slice none 0 0] 27 (0, 0)) (bk_ BK381.out) NB381_385.out (by simp))
   have n1_ := Aside0.mk (Zs (Kd.S_keep (IsS93.apartS (show IsS93 w _ g385 t382 t397 t398 from by repeat (first | (with_reducible first | exact HI385.out | apply IsS93.alloc | apply IsS93.drewN | apply IsS93.drew | apply IsS93.set_1 | apply IsS93.set_2 | refine IsS93.far ?_ NB385_381.out _ | refine IsS93.far ?_ NB385_392.out _) | exact HI385.out)) (rS_ HO389.out) (by decide)) hk (fun _ h => h.2)) (fun _ h => h.1))
   have n2_ := Aside0.mk (KeepBut.blk hk (g' := gb392) (o := .cells #[.int .i64 t386, .slice Ao14 t387.length co14] 27 (0, 0)) (bk_ BK392.out) NB392_385.out (by simp))
   have n3_ := Aside0.mk (hb)
   have n4_ := Aside0.mk (hi)
   have z_HO401 := fun (h0_ : b 5 = true) => (show Kd.R (Kd.int .i64) 3 w20 w.heap.size (fun _ => True) v400 y399 from by first | exact (Zz (Kd.R_keep (IsS93.apart (show IsS93 w _ g385 t382 t397 t398 from by repeat (first | (with_reducible first | exact HI385.out | apply IsS93.alloc | apply IsS93.drewN | apply IsS93.drew | apply IsS93.set_1 | apply IsS93.set_2 | refine IsS93.far ?_ NB385_381.out _ | refine IsS93.far ?_ NB385_392.out _) | exact HI385.out)) (by (with_reducible repeat (first | apply Kd.R_alloc | apply Kd.R_drewN | apply ZR)); exact (Q_HO401 h0_)) (by decide)) hk (fun _ h => h.2)) (fun _ h => h.1)) | exact Zz (Zz (Kd.R_keep (IsS93.apart (show IsS93 w _ g385 t382 t397 t398 from by repeat (first | (with_reducible first | exact HI385.out | apply IsS93.alloc | apply IsS93.drewN | apply IsS93.drew | apply IsS93.set_1 | apply IsS93.set_2 | refine IsS93.far ?_ NB385_381.out _ | refine IsS93.far ?_ NB385_392.out _) | exact HI385.out)) (by (with_reducible repeat (first | apply Kd.R_alloc | apply Kd.R_drewN | apply ZR)); exact (Q_HO401 h0_)) (by decide)) hk (fun _ h => h.2)) (fun _ h => h.1)) (fun _ h_ => by first | trivial | exact h_ | exact h_.1))
   clear BK381
   clear HO389
   clear BK392
   clear HB
   clear HI385
   have BK381 := n0_
   have HO389 := n1_
   have BK392 := n2_
   have HB := n3_
   have HI385 := n4_
   clear n0_ n1_ n2_ n3_ n4_
   (try clear hb)
   (try clear hb2)
   (try clear hk)
   (try clear hi)
   refine hK.out _ _ ⟨v400, m9_, (by rw [ha.out]; exact putSel_upk 4 hb_ rfl rfl rfl), (rS_ HO389.out), fun _ => (bk_ BK381.out), (bk_ BK392.out), fun h0_ => absurd ((hon 2 (by kernel_rfl)).symm.trans h0_) (by decide), (by repeat (first | (with_reducible first | exact HB.out | apply Zq | apply Zm | apply Zi | refine Zh ?_ (IsS93.ge HI385.out) | refine Zh ?_ GE381.out | refine Zh ?_ GE392.out) | exact HB.out)), fun _ h1_ => absurd ((hon 4 (by kernel_rfl)).symm.trans h1_) (by decide), fun _ h1_ => absurd ((up_self b 7).symm.trans h1_) (by decide), z_HO401, fun _ => (by repeat (first | (with_reducible first | exact HI385.out | apply IsS93.alloc | apply IsS93.drewN | apply IsS93.drew | apply IsS93.set_1 | apply IsS93.set_2 | refine IsS93.far ?_ NB385_381.out _ | refine IsS93.far ?_ NB385_392.out _) | exact HI385.out)), fun h0_ => absurd ((hoff 8 (by kernel_rfl)).symm.trans h0_) (by decide), fun h0_ => absurd ((hoff 9 (by kernel_rfl)).symm.trans h0_) (by decide)⟩
  refine steps_cons ?_ ?_
  ·rintro b a w' ⟨v400, m9_, ha, Q_HO389, Q_BK381, Q_BK392, Q_HI385, Q_HB, Q_HI385_e2, Q_HI385_e4, Q_HO401, Q_HI385_e7, Q_BK381_e8, Q_X9_⟩ hb_ hon hoff
   refine ⟨_, rfl, fun K hK => ?_⟩
   have e2 : a.tmps[2]? = some (.pointer (some ⟨gb381, 0, none⟩)) := by rw [ha]; exact (putSel_off rfl).trans rfl
   have e11 : a.tmps[11]? = some (.agg #[.int .i64 t386, .slice Ao14 t387.length co14]) := by rw [ha]; exact putSel_on (e := (0, 11, .agg #[.int .i64 t386, .slice Ao14 t387.length co14])) 0 rfl rfl (hon 0 (by kernel_rfl)) rfl
   replace ha := Aside0.mk ha
   have HO389 := Aside0.mk Q_HO389
   have BK381 := Aside0.mk (Q_BK381 hb_)
   have BK392 := Aside0.mk Q_BK392
   have HB := Aside0.mk Q_HB
   have HI385 := Aside0.mk (Q_HI385_e7 (hon 7 (by kernel_rfl)))
   have hs21 : w'.cell? ⟨gb381, 0, none⟩ = some (.int .i64 0) := (Za BK381.out 0).trans rfl
   have hfs21 := Zb BK381.out 0
   have hns21_1 := NB392_381.out
   have hms21_1 := NB381_392.out
   have hs22 : w'.cell? ⟨gb381, 1, none⟩ = some (.slice none 0 0) := (Za BK381.out 1).trans rfl
   have hfs22 := Zb BK381.out 1
   have hns22_1 := NB392_381.out
   have hms22_1 := NB381_392.out
   refine skip_ (w1 := ?_) (by rfl) rfl ?_ ?_
   rotate_left
   ·go_simp
    rfl
   refine hK.out _ _ ⟨v400, m9_, (by rw [ha.out]; exact putSel_none (v := undef) rfl), (by (with_reducible repeat (first | apply Zy | apply Zx | apply Zr)); exact Zs (Zw (p := ⟨gb381, 1, none⟩) (Zw (p := ⟨gb381, 0, none⟩) (ZC HO389.out BK381.out (by decide)) (fun _ hk => hk.2) (.int .i64 t386)) (fun _ hk => hk.2) (.slice Ao14 t387.length co14)) (fun _ hk => hk.1)), fun h0_ => absurd ((up_self b 8).symm.trans h0_) (by decide), (by (with_reducible repeat (first | refine Zg ?_ _ | refine Zd ?_ | refine Zf ?_ _)); refine ZK ?_ NB392_381.out _; (with_reducible repeat (first | refine Zg ?_ _ | refine Zd ?_ | refine Zf ?_ _)); refine ZK ?_ NB392_381.out _; (with_reducible repeat (first | refine Zg ?_ _ | refine Zd ?_ | refine Zf ?_ _)); exact BK392.out), fun h0_ => absurd ((hon 2 (by kernel_rfl)).symm.trans h0_) (by decide), (by repeat (first | (with_reducible first | exact HB.out | apply Zq | apply Zm | apply Zi | refine Zh ?_ (IsS93.ge HI385.out) | refine Zh ?_ GE381.out | refine Zh ?_ GE392.out) | exact HB.out)), fun _ h1_ => absurd ((hon 4 (by kernel_rfl)).symm.trans h1_) (by decide), fun _ h1_ => absurd ((hon 7 (by kernel_rfl)).symm.trans h1_) (by decide), fun h0_ => (by (with_reducible repeat (first | apply Kd.R_alloc | apply Kd.R_drewN | apply ZR)); exact Zz (Kd.R_far (p := ⟨gb381, 1, none⟩) (Kd.R_far (p := ⟨gb381, 0, none⟩) (Kd.R_types (Q_HO401 h0_) BK381.out (by decide)) (fun _ hk => hk.2) (.int .i64 t386)) (fun _ hk => hk.2) (.slice Ao14 t387.length co14)) (fun _ hk => trivial)), fun _ => (by repeat (first | (with_reducible first | exact HI385.out | apply IsS93.alloc | apply IsS93.drewN | apply IsS93.drew | apply IsS93.set_1 | apply IsS93.set_2 | refine IsS93.far ?_ NB385_381.out _ | refine IsS93.far ?_ NB385_392.out _) | exact HI385.out)), fun _ => (by (with_reducible repeat (first | refine Zg ?_ _ | refine Zd ?_ | refine Zf ?_ _)); refine ZT (cs := #[.int .i64 t386, .slice none 0 0]) ?_ 1 _ rfl; (with_reducible repeat (first | refine Zg ?_ _ | refine Zd ?_ | refine Zf ?_ _)); refine ZT (cs := #[.int .i64 0, .slice none 0 0]) ?_ 0 _ rfl; (with_reducible repeat (first | refine Zg ?_ _ | refine Zd ?_ | refine Zf ?_ _)); exact BK381.out), fun h0_ => absurd ((hoff 9 (by kernel_rfl)).symm.trans h0_) (by decide)⟩
  refine steps_cons ?_ ?_
  ·rintro b a w' ⟨v400, m9_, ha, Q_HO389, Q_BK381, Q_BK392, Q_HI385, Q_HB, Q_HI385_e2, Q_HI385_e4, Q_HO401, Q_HI385_e7, Q_BK381_e8, Q_X9_⟩ hb_ hon hoff
   refine ⟨_, rfl, fun K hK => ?_⟩
   have e16 : a.tmps[16]? = some (v400) := by rw [ha]; exact putSel_on (e := (5, 16, v400)) 3 rfl rfl (hon 5 (by kernel_rfl)) rfl
   replace ha := Aside0.mk ha
   have HO389 := Aside0.mk Q_HO389
   have BK392 := Aside0.mk Q_BK392
   have HB := Aside0.mk Q_HB
   have HO401 := Aside0.mk (Q_HO401 (hon 5 (by kernel_rfl)))
   have HI385 := Aside0.mk (Q_HI385_e7 (hon 7 (by kernel_rfl)))
   have BK381 := Aside0.mk (Q_BK381_e8 (hon 8 (by kernel_rfl)))
   refine value_ (w1 := w') (v := v400) (by rfl) rfl ?_ ?_
   ·go_simp
    (try simp only [i64_w])
    try rfl
   refine hK.out _ _ ⟨v400, (v400), (by rw [ha.out]; exact putSel_upk 5 hb_ rfl rfl rfl), Q_HO389, fun h0_ => absurd ((hon 8 (by kernel_rfl)).symm.trans h0_) (by decide), Q_BK392, fun h0_ => absurd ((hon 2 (by kernel_rfl)).symm.trans h0_) (by decide), Q_HB, fun _ h1_ => absurd ((hon 4 (by kernel_rfl)).symm.trans h1_) (by decide), fun _ h1_ => absurd ((hon 7 (by kernel_rfl)).symm.trans h1_) (by decide), Q_HO401, Q_HI385_e7, Q_BK381_e8, fun _ => rfl⟩
  refine steps_cons ?_ ?_
  ·rintro b a w' ⟨v400, m9_, ha, Q_HO389, Q_BK381, Q_BK392, Q_HI385, Q_HB, Q_HI385_e2, Q_HI385_e4, Q_HO401, Q_HI385_e7, Q_BK381_e8, Q_X9_⟩ hb_ hon hoff
   refine ⟨_, rfl, fun K hK => ?_⟩
   have e18 : a.tmps[18]? = some (.int .i64 t402) := by rw [ha]; exact putSel_on (e := (7, 18, .int .i64 t402)) 4 rfl rfl (hon 7 (by kernel_rfl)) rfl
   replace ha := Aside0.mk ha
   have HO389 := Aside0.mk Q_HO389
   have BK392 := Aside0.mk Q_BK392
   have HB := Aside0.mk Q_HB
   have HO401 := Aside0.mk (Q_HO401 (hon 5 (by kernel_rfl)))
   have HI385 := Aside0.mk (Q_HI385_e7 (hon 7 (by kernel_rfl)))
   have BK381 := Aside0.mk (Q_BK381_e8 (hon 8 (by kernel_rfl)))
   refine value_ (w1 := w') (v := .int .i64 t402) (by rfl) rfl ?_ ?_
   ·go_simp
    (try simp only [i64_w])
    try rfl
   refine hK.out _ _ ⟨v400, m9_, (by rw [ha.out]; exact putSel_upk 6 hb_ rfl rfl rfl), Q_HO389, fun h0_ => absurd ((hon 8 (by kernel_rfl)).symm.trans h0_) (by decide), Q_BK392, fun h0_ => absurd ((hon 2 (by kernel_rfl)).symm.trans h0_) (by decide), Q_HB, fun _ h1_ => absurd ((hon 4 (by kernel_rfl)).symm.trans h1_) (by decide), fun _ h1_ => absurd ((hon 7 (by kernel_rfl)).symm.trans h1_) (by decide), Q_HO401, Q_HI385_e7, Q_BK381_e8, Q_X9_⟩
  exact steps_nil
 rintro b a w24 hall ⟨v400, m9_, ha, Q_HO389, Q_BK381, Q_BK392, Q_HI385, Q_HB, Q_HI385_e2, Q_HI385_e4, Q_HO401, Q_HI385_e7, Q_BK381_e8, Q_X9_⟩
 clear BK381 BK392 HB HI385 HO389
 have hb0_ := hall 0 (by kernel_rfl)
 have hb2_ := hall 2 (by kernel_rfl)
 have hb4_ := hall 4 (by kernel_rfl)
 have hb5_ := hall 5 (by kernel_rfl)
 have hb7_ := hall 7 (by kernel_rfl)
 have hb8_ := hall 8 (by kernel_rfl)
 have hb9_ := hall 9 (by kernel_rfl)
 have hb10_ := hall 10 (by kernel_rfl)
 subst ha
 obtain rfl := Q_X9_ hb9_
 simp only [putSel, hb0_, hb2_, hb4_, hb5_, hb7_, hb8_, hb9_, hb10_, if_true, Act.put, List.setIfInBounds_toArray, List.set_cons_zero, List.set_cons_succ]
 have HO389 := Aside0.mk (Zs Q_HO389 (fun _ hk => hk hb5_))
 clear Q_HO389
 clear Q_BK381
 have BK392 := Aside0.mk Q_BK392
 clear Q_BK392
 clear Q_HI385
 have HB := Aside0.mk Q_HB
 clear Q_HB
 clear Q_HI385_e2
 clear Q_HI385_e4
 have HO401 := Aside0.mk (Q_HO401 hb5_)
 clear Q_HO401
 have HI385 := Aside0.mk (Q_HI385_e7 hb7_)
 clear Q_HI385_e7
 have BK381 := Aside0.mk (Q_BK381_e8 hb8_)
 clear Q_BK381_e8
 clear hall hb0_ hb2_ hb4_ hb5_ hb7_ hb8_ hb9_ hb10_
 try go_wp2
 refine bodyPost_ret (results_ctt rfl _ _ gb381 27 #[.int .i64 t386, .slice Ao14 t387.length co14] (0, 0) _ rfl (bk_ BK381.out) Try.underlying27 rfl (by kernel_rfl)) rfl ?_
 exact ⟨_, _, er_, rS_ HO389.out, rR_ HO401.out, by repeat (first | (with_reducible first | exact HB.out | apply Zq | apply Zm | apply Zi | refine Zh ?_ (IsS93.ge HI385.out) | refine Zh ?_ GE381.out | refine Zh ?_ GE392.out) | exact HB.out)⟩

/-! ### spec_DrawBestAnswer: function 34 -/
def spec_DrawBestAnswer.f (k : Nat) (l0 : List Int) : Option (Int × (List (List Int)) × List Int × Int) := (spec_DrawAnswersTo.f k l0).bind fun bt406 => (some (bt406.1, bt406.2.1, bt406.2.2.1, bt406.2.2.2))
theorem spec_DrawBestAnswer.mono : ∀ a0 k, LeO (spec_DrawBestAnswer.f k a0) (spec_DrawBestAnswer.f (k + 1) a0) := by
 intro a0 k
 unfold spec_DrawBestAnswer.f
 repeat' first
   | (with_reducible exact spec_DrawAnswersTo.mono _ _)
   | (with_reducible exact ZJ _)
   | (with_reducible exact Zn _)
   | (with_reducible refine Zt ?_ ?_)
   | (with_reducible refine Zo ?_ (fun _ => ?_))
   | exact spec_DrawAnswersTo.mono _ _
   | exact Zn _
   | refine Zt ?_ ?_
   | refine Zo ?_ (fun _ => ?_)
set_option maxHeartbeats 8000000 in
set_option maxRecDepth 100000 in
theorem spec_DrawBestAnswer.calls (k : Nat) (A0 : Option Addr) (c0 : Nat) (l0 : List Int) (r1 : Int) (r2 : List (List Int)) (r3 : List Int) (r4 : Int) (w : World) (hr0 : Kd.C (Kd.int .u8) w A0 l0.length l0) (hc0 : l0.length ≤ c0) (h : spec_DrawBestAnswer.f k l0 = some (r1, r2, r3, r4)) :
  Calls Try.prog 34 #[.slice A0 l0.length c0] w fun e w' => ∃ v1_ v2_ : Value, e = .returned (.tuple #[.agg #[.int .i64 r1, v1_], v2_, .int .i64 r4]) ∧ Kd.S (Kd.slice 3 (Kd.int .i64)) 31 w' w.heap.size (fun k_ => some k_ ≠ (v2_ : Value).ownBlock) v1_ r2 ∧ Kd.R (Kd.int .i64) 3 w' w.heap.size (fun _ => True) v2_ r3 ∧ Below w.heap.size w w' := by
 have hu27 := Try.underlying27
 have HR0 := Aside0.mk hr0
 have HC0 := Aside0.mk hc0
 clear hr0 hc0
 have HB := Aside0.mk (Below.refl w.heap.size w)
 have H : ((spec_DrawAnswersTo.f k l0).bind fun bt406 => (some (bt406.1, bt406.2.1, bt406.2.2.1, bt406.2.2.2))) = some (r1, r2, r3, r4) := h
 clear h
 replace H := Option.bind_eq_some_iff.mp H
 obtain ⟨⟨t406, t407, t410, t413⟩, A20, H⟩ := H
 replace H : (some (t406, t407, t410, t413)) = some (r1, r2, r3, r4) := H
 have A2 := Aside0.mk A20
 clear A20
 simp only [Option.some.injEq, Prod.mk.injEq] at H
 obtain ⟨rfl, rfl, rfl, rfl⟩ := H
 go_enter Try.func34, Try.ntmps34
 go_wp2_with (first | ((with_reducible refine ZD (N := 2) rfl ?_); refine ZH ?hg (N := 2) ?hd (cs := #[.int .i64 0, .slice none 0 0]) (t := 27) ?hr ?_; (case hd => rfl); (case hg => rfl); (case hr => first | (go_simp; done) | (go_simp; rfl)); intro gb405 hg w3 hbox hb; have BK405 := Aside0.mk (hbox); have GW405 := Aside0.mk ((hz_ hg : w.heap.size ≤ gb405)); have GE405 := Aside0.mk ((hz_ hg : w.heap.size ≤ gb405)); replace HB := Aside0.mk (Ze hB_ hb); clear hb hbox hg) | ((with_reducible refine Zj (f := 85) rfl ?_); refine ZE (some 6) rfl rfl Try.func85 (by kernel_rfl) rfl #[.slice A0 l0.length c0] rfl ar_ ?_; (with_reducible refine (spec_DrawAnswersTo.calls k _ _ l0 t406 t407 t410 t413 _ ?side1 ?side2 A2.out).mono ?_); (case side1 => exact cb_ HR0.out); (case side2 => exact HC0.out); rintro e w4 ⟨v408, v411, rfl, ho0, ho1, hb⟩; refine ⟨_, rfl, ?_⟩; have HO409 := Aside0.mk (Kd.S_lower ho0 (Zl hB_)); have HO412 := Aside0.mk (ZI ho1 (Zl hB_)); replace BK405 := Aside0.mk (Zc (g := gb405) (o := .cells #[.int .i64 0, .slice none 0 0] 27 (0, 0)) (bk_ BK405.out) hb); replace HB := Aside0.mk (Ze hB_ hb); (try clear hb); (try clear hb2); (try clear hk); (try clear hi); (try clear ho0); (try clear ho1); have hcz5_0 : w4.cell? ⟨gb405, 0, none⟩ = some (.int .i64 0) := (Za BK405.out 0).trans rfl; have hcz5_1 : w4.cell? ⟨gb405, 1, none⟩ = some (.slice none 0 0) := (Za BK405.out 1).trans rfl; have hfz5_0 := Zb BK405.out 0; have hfz5_1 := Zb BK405.out 1; obtain ⟨Ao6, co6, eo6⟩ := Kd.S_slice HO409.out; subst eo6))
 refine bodyPost_ret (results_ctt rfl _ _ gb405 27 #[.int .i64 t406, .slice Ao6 t407.length co6] (0, 0) _ rfl (by (with_reducible repeat (first | refine Zg ?_ _ | refine Zd ?_ | refine Zf ?_ _)); refine ZT (cs := #[.int .i64 t406, .slice none 0 0]) ?_ 1 _ rfl; (with_reducible repeat (first | refine Zg ?_ _ | refine Zd ?_ | refine Zf ?_ _)); refine ZT (cs := #[.int .i64 0, .slice none 0 0]) ?_ 0 _ rfl; (with_reducible repeat (first | refine Zg ?_ _ | refine Zd ?_ | refine Zf ?_ _)); exact BK405.out) Try.underlying27 rfl (by kernel_rfl)) rfl ?_
 exact ⟨_, _, er_, by (with_reducible repeat (first | apply Zy | apply Zx | apply Zr)); exact Zs (Zw (p := ⟨gb405, 1, none⟩) (Zw (p := ⟨gb405, 0, none⟩) (ZC HO409.out BK405.out (by decide)) (fun _ hk => hk.2) (.int .i64 t406)) (fun _ hk => hk.2) (.slice Ao6 t407.length co6)) (fun _ hk => hk.1), by (with_reducible repeat (first | apply Kd.R_alloc | apply Kd.R_drewN | apply ZR)); exact Zz (Kd.R_far (p := ⟨gb405, 1, none⟩) (Kd.R_far (p := ⟨gb405, 0, none⟩) (Kd.R_types HO412.out BK405.out (by decide)) (fun _ hk => hk.2) (.int .i64 t406)) (fun _ hk => hk.2) (.slice Ao6 t407.length co6)) (fun _ hk => trivial), hB_⟩

/-! ### spec_AttackersOf: function 106 -/
mutual
def spec_AttackersOf.l0 : Nat → Int → List Int → Int → Int → List (List Int) → Option (List Int)
 | 0, _, _, _, _, _ => none
 | k + 1, x1, x5, x6, x415000, x415001 => if x6 < (x415001.length : Int) then ((spec_IsGraph.f k x415000 x415001).bind fun t418 => (spec_AttackersOf.j1 k x1 x5 x6 t418 x415000 x415001)) else (spec_AttackersOf.j1 k x1 x5 x6 false x415000 x415001)
def spec_AttackersOf.j1 : Nat → Int → List Int → Int → Bool → Int → List (List Int) → Option (List Int)
 | 0, _, _, _, _, _, _ => none
 | k + 1, x1, x5, x6, x16, x415000, x415001 => if x16 = true then (if 0 ≤ x6 then (if x6 < (x415001.length : Int) then (if 1 < ((rd_L1 x415001 x6).length : Int) then (if (rd (rd_L1 x415001 x6) 1) = x1 then (if 0 < ((rd_L1 x415001 x6).length : Int) then (if x5.length < 17592186044416 then (spec_AttackersOf.l0 k x1 (x5 ++ [rd (rd_L1 x415001 x6) 0]) (wrap64 (x6 + 1)) x415000 x415001) else (none)) else (none)) else (spec_AttackersOf.l0 k x1 x5 (wrap64 (x6 + 1)) x415000 x415001)) else (none)) else (none)) else (none)) else (some x5)
end
def spec_AttackersOf.f (k : Nat) (a0_0 : Int) (l0_1 : List (List Int)) (a1 : Int) : Option (List Int) := spec_AttackersOf.l0 k a1 (([] : List Int)) 0 a0_0 l0_1
theorem spec_AttackersOf.mono_l : ∀ k, (∀ y0 y1 y2 y3 y4, LeO (spec_AttackersOf.l0 k y0 y1 y2 y3 y4) (spec_AttackersOf.l0 (k + 1) y0 y1 y2 y3 y4)) ∧ (∀ y0 y1 y2 y3 y4 y5, LeO (spec_AttackersOf.j1 k y0 y1 y2 y3 y4 y5) (spec_AttackersOf.j1 (k + 1) y0 y1 y2 y3 y4 y5))
 | 0 => ⟨fun _ _ _ _ _ r h => by simp [spec_AttackersOf.l0] at h, fun _ _ _ _ _ _ r h => by simp [spec_AttackersOf.j1] at h⟩
 | k + 1 => by
  obtain ⟨ih0, ih1⟩ := spec_AttackersOf.mono_l k
  refine ⟨?_, ?_⟩
  ·intro y0 y1 y2 y3 y4
   unfold spec_AttackersOf.l0
   repeat' first
   | (with_reducible exact ih0 _ _ _ _ _)
   | (with_reducible exact ih1 _ _ _ _ _ _)
   | (with_reducible exact spec_IsGraph.mono _ _ _)
   | (with_reducible exact ZJ _)
   | (with_reducible exact Zn _)
   | (with_reducible refine Zt ?_ ?_)
   | (with_reducible refine Zo ?_ (fun _ => ?_))
   | exact ih0 _ _ _ _ _
   | exact ih1 _ _ _ _ _ _
   | exact spec_IsGraph.mono _ _ _
   | exact Zn _
   | refine Zt ?_ ?_
   | refine Zo ?_ (fun _ => ?_)
  ·intro y0 y1 y2 y3 y4 y5
   unfold spec_AttackersOf.j1
   repeat' first
   | (with_reducible exact ih0 _ _ _ _ _)
   | (with_reducible exact ih1 _ _ _ _ _ _)
   | (with_reducible exact spec_IsGraph.mono _ _ _)
   | (with_reducible exact ZJ _)
   | (with_reducible exact Zn _)
   | (with_reducible refine Zt ?_ ?_)
   | (with_reducible refine Zo ?_ (fun _ => ?_))
   | exact ih0 _ _ _ _ _
   | exact ih1 _ _ _ _ _ _
   | exact spec_IsGraph.mono _ _ _
   | exact Zn _
   | refine Zt ?_ ?_
   | refine Zo ?_ (fun _ => ?_)
theorem spec_AttackersOf.mono : ∀ a0 a1 a2 k, LeO (spec_AttackersOf.f k a0 a1 a2) (spec_AttackersOf.f (k + 1) a0 a1 a2) := by
 intro a0 a1 a2 k
 obtain ⟨ih0, ih1⟩ := spec_AttackersOf.mono_l k
 unfold spec_AttackersOf.f
 repeat' first
   | (with_reducible exact ih0 _ _ _ _ _)
   | (with_reducible exact ih1 _ _ _ _ _ _)
   | (with_reducible exact spec_IsGraph.mono _ _ _)
   | (with_reducible exact ZJ _)
   | (with_reducible exact Zn _)
   | (with_reducible refine Zt ?_ ?_)
   | (with_reducible refine Zo ?_ (fun _ => ?_))
   | exact ih0 _ _ _ _ _
   | exact ih1 _ _ _ _ _ _
   | exact spec_IsGraph.mono _ _ _
   | exact Zn _
   | refine Zt ?_ ?_
   | refine Zo ?_ (fun _ => ?_)
set_option maxHeartbeats 8000000 in
set_option maxRecDepth 100000 in
theorem spec_AttackersOf.calls (k : Nat) (a0_0 : Int) (A0_1 : Option Addr) (c0_1 : Nat) (l0_1 : List (List Int)) (a1 : Int) (r : List Int) (w : World) (hr0_1 : Kd.C (Kd.slice 3 (Kd.int .i64)) w A0_1 l0_1.length l0_1) (hc0_1 : l0_1.length ≤ c0_1) (h : spec_AttackersOf.f k a0_0 l0_1 a1 = some r) :
  Calls Try.prog 106 #[.agg #[.int .i64 a0_0, .slice A0_1 l0_1.length c0_1], .int .i64 a1] w fun e w' => ∃ v0_ : Value, e = .returned (v0_) ∧ Kd.R (Kd.int .i64) 3 w' w.heap.size (fun _ => True) v0_ r ∧ Below w.heap.size w w' := by
 have hu27 := Try.underlying27
 have HR0_1 := Aside0.mk hr0_1
 have HC0_1 := Aside0.mk hc0_1
 clear hr0_1 hc0_1
 have HB := Aside0.mk (Below.refl w.heap.size w)
 have H : (spec_AttackersOf.l0 k a1 (([] : List Int)) 0 a0_0 l0_1) = some r := h
 clear h
 obtain ⟨y415, hy415⟩ : ∃ y_ : List Int, y_ = (([] : List Int)) := ⟨_, rfl⟩
 replace H : (spec_AttackersOf.l0 k a1 y415 0 a0_0 l0_1) = some r := hy_ hy415 H
 have Ny415 := Aside0.mk hy415
 clear hy415
 have H' := Aside0.mk H
 clear H
 go_enter Try.func106, Try.ntmps106
 go_wp2_with (first | ((with_reducible refine ZD (N := 2) rfl ?_); refine ZH ?hg (N := 2) ?hd (cs := #[.int .i64 a0_0, .slice A0_1 l0_1.length c0_1]) (t := 27) ?hr ?_; (case hd => rfl); (case hg => rfl); (case hr => first | (go_simp; done) | (go_simp; rfl)); intro gb414 hg w3 hbox hb; have BK414 := Aside0.mk (hbox); have GW414 := Aside0.mk ((hz_ hg : w.heap.size ≤ gb414)); have GE414 := Aside0.mk ((hz_ hg : w.heap.size ≤ gb414)); replace HB := Aside0.mk (Ze hB_ hb); clear hb hbox hg) | ((with_reducible refine ZD (N := 7) rfl ?_); refine Kd.R_lit (Kd.int .i64) _ 3 ?hg (N := 7) ?hd (xs := ([] : List Int)) (inner := []) (ok := fun _ => True) (okp := fun _ => True) ?hr ?hp (fun _ hk => hk) trivial (Below.refl _ _) (Nat.le_refl _) (by simp) ?_; (case hd => rfl); (case hg => rfl); (case hr => first | (go_simp; done) | (go_simp; rfl)); (case hp => exact (Reps.none _ _)); intro v416 w4 ho5 hb hg_ hnew_; clear hg_ hnew_; (first | rw [← Ny415.out] at ho5 | (simp only [Int.reduceToNat] at ho5; rw [← Ny415.out] at ho5)); have HO417 := Aside0.mk (ZI ho5 (Zl hB_)); replace BK414 := Aside0.mk (Zc (g := gb414) (o := .cells #[.int .i64 a0_0, .slice A0_1 l0_1.length c0_1] 27 (0, 0)) (bk_ BK414.out) hb); replace HB := Aside0.mk (Ze hB_ hb); clear hb ho5))
 go_loopg [5, 6] k (fun kq v5 v6 w' => ∃ (x5_1 : List Int) (x6_1 : Int), v6 = .int .i64 x6_1 ∧ Aside0 (spec_AttackersOf.l0 kq a1 x5_1 x6_1 a0_0 l0_1 = some r) ∧ Aside0 (kq ≤ k) ∧ Aside0 (Kd.R (Kd.int .i64) 3 w' w.heap.size (fun _ => True) v5 x5_1) ∧ Aside0 (w'.heap[gb414]? = some (.cells #[.int .i64 a0_0, (.slice A0_1 l0_1.length c0_1)] 27 (0, 0))) ∧ Aside0 (Below w.heap.size w w'))
 case atStart => exact ⟨(y415), (0), sm_, H', ⟨Nat.le_refl _⟩, ⟨rR_ HO417.out⟩, ⟨bk_ BK414.out⟩, ⟨hB_⟩⟩
 case round =>
  clear H'
  try clear c1
  try clear p2
  obtain ⟨x5_1, x6_1, rfl, HA, HK1, HO_5, BK414, HB⟩ := hrel
  cases gk with
  | zero => exact absurd HA.out (by simp [spec_AttackersOf.l0])
  | succ k1 =>
   have H := HA.out
   clear HA
   simp only [spec_AttackersOf.l0] at H
   have HC6 := Aside0.mk H
   clear H
   go_upto_region 3 with (fail)
   go_cut [16] (fun v16 wc => ∃ (kq : Nat) (x16_5 : Bool), v16 = .bool x16_5 ∧ Aside0 (spec_AttackersOf.j1 kq a1 x5_1 x6_1 x16_5 a0_0 l0_1 = some r) ∧ Aside0 (kq ≤ k1) ∧ Aside0 (Kd.R (Kd.int .i64) 3 wc w.heap.size (fun _ => True) u5 x5_1) ∧ Aside0 (wc.heap[gb414]? = some (.cells #[.int .i64 a0_0, (.slice A0_1 l0_1.length c0_1)] 27 (0, 0))) ∧ Aside0 (Below w.heap.size w wc))
   case first =>
    have H := HC6.out
    clear HC6
    by_cases c7 : x6_1 < (l0_1.length : Int)
    ·rw [if_pos c7] at H
     have c7b0 : decide (x6_1 < (l0_1.length : Int)) = true := decide_eq_true c7
     clear c7
     (first | rw [c7b0] | (simp only [i64_w, i32_w]; rw [c7b0]) | skip)
     replace H := Option.bind_eq_some_iff.mp H
     obtain ⟨t418, A80, H⟩ := H
     replace H : (spec_AttackersOf.j1 k1 a1 x5_1 x6_1 t418 a0_0 l0_1) = some r := H
     have A8 := Aside0.mk A80
     clear A80
     have H' := Aside0.mk H
     clear H
     have hcz9_0 : wr.cell? ⟨gb414, 0, none⟩ = some (.int .i64 a0_0) := (Za BK414.out 0).trans rfl
     have hcz9_1 : wr.cell? ⟨gb414, 1, none⟩ = some (.slice A0_1 l0_1.length c0_1) := (Za BK414.out 1).trans rfl
     have hfz9_0 := Zb BK414.out 0
     have hfz9_1 := Zb BK414.out 1
     go_wp2_with (first | (go_at_call 57; (with_reducible refine (spec_IsGraph.calls k1 a0_0 _ _ l0_1 t418 _ ?side1 ?side2 A8.out).mono ?_); (case side1 => exact cb_ HR0_1.out); (case side2 => exact HC0_1.out); rintro e w10 ⟨rfl, hb⟩; replace HO_5 := Aside0.mk (ZN (rR_ HO_5.out) hb); replace BK414 := Aside0.mk (Zc (g := gb414) (o := .cells #[.int .i64 a0_0, .slice A0_1 l0_1.length c0_1] 27 (0, 0)) (bk_ BK414.out) hb); replace HB := Aside0.mk (Ze hB_ hb); (try clear hb); (try clear hb2); (try clear hk); (try clear hi)))
     go_meet
     case rel => exact ⟨_, (t418), sm_, H', ⟨by have := HK1.out; first | omega | exact Nat.le_refl _⟩, ⟨rR_ HO_5.out⟩, ⟨bk_ BK414.out⟩, ⟨hB_⟩⟩
    ·rw [if_neg c7] at H
     have c7b0 : decide (x6_1 < (l0_1.length : Int)) = false := decide_eq_false c7
     clear c7
     (first | rw [c7b0] | (simp only [i64_w, i32_w]; rw [c7b0]) | skip)
     have H' := Aside0.mk H
     clear H
     have hcz11_0 : wr.cell? ⟨gb414, 0, none⟩ = some (.int .i64 a0_0) := (Za BK414.out 0).trans rfl
     have hcz11_1 : wr.cell? ⟨gb414, 1, none⟩ = some (.slice A0_1 l0_1.length c0_1) := (Za BK414.out 1).trans rfl
     have hfz11_0 := Zb BK414.out 0
     have hfz11_1 := Zb BK414.out 1
     go_wp2
     go_meet
     case rel => exact ⟨_, (false), sm_, H', ⟨by have := HK1.out; first | omega | exact Nat.le_refl _⟩, ⟨rR_ HO_5.out⟩, ⟨bk_ BK414.out⟩, ⟨hB_⟩⟩
   case rest =>
    clear HC6
    try clear c1
    try clear p2
    try clear c7
    try clear c7b0
    try clear c10
    try clear hcz11_0
    try clear hcz11_1
    try clear hcz9_0
    try clear hcz9_1
    try clear hfz11_0
    try clear hfz11_1
    try clear hfz9_0
    try clear hfz9_1
    try clear p2
    obtain ⟨kq, x16_5, rfl, HA, HJ5, HO_5, BK414, HB⟩ := hcut
    cases kq with
    | zero => exact absurd HA.out (by simp [spec_AttackersOf.j1])
    | succ kj5 =>
     have H := HA.out
     clear HA
     simp only [spec_AttackersOf.j1] at H
     by_cases c12 : x16_5 = true
     ·subst c12
      have H1 : (if 0 ≤ x6_1 then (if x6_1 < (l0_1.length : Int) then (if 1 < ((rd_L1 l0_1 x6_1).length : Int) then (if (rd (rd_L1 l0_1 x6_1) 1) = a1 then (if 0 < ((rd_L1 l0_1 x6_1).length : Int) then (if x5_1.length < 17592186044416 then (spec_AttackersOf.l0 kj5 a1 (x5_1 ++ [rd (rd_L1 l0_1 x6_1) 0]) (wrap64 (x6_1 + 1)) a0_0 l0_1) else (none)) else (none)) else (spec_AttackersOf.l0 kj5 a1 x5_1 (wrap64 (x6_1 + 1)) a0_0 l0_1)) else (none)) else (none)) else (none)) = some r := by rw [if_pos rfl] at H; exact H
      clear H
      have H := H1
      clear H1
      by_cases c13 : 0 ≤ x6_1
      ·rw [if_pos c13] at H
       have c13b0 : decide (0 ≤ x6_1) = true := decide_eq_true c13
       clear c13
       by_cases c14 : x6_1 < (l0_1.length : Int)
       ·rw [if_pos c14] at H
        have c14b0 : decide (x6_1 < (l0_1.length : Int)) = true := decide_eq_true c14
        clear c14
        by_cases c15 : 1 < ((rd_L1 l0_1 x6_1).length : Int)
        ·rw [if_pos c15] at H
         have c15b0 : decide (1 < ((rd_L1 l0_1 x6_1).length : Int)) = true := decide_eq_true c15
         have c15b1 : decide (1 < (rd_L1 l0_1 x6_1).length) = true := decide_eq_true (by omega)
         clear c15
         by_cases c16 : (rd (rd_L1 l0_1 x6_1) 1) = a1
         ·rw [if_pos c16] at H
          have c16b0 : ((rd (rd_L1 l0_1 x6_1) 1) == a1) = true := beq_iff_eq.mpr c16
          have c16b1 : ((rd (rd_L1 l0_1 x6_1) 1) != a1) = false := bne_eq_false_iff_eq.mpr c16
          clear c16
          by_cases c17 : 0 < ((rd_L1 l0_1 x6_1).length : Int)
          ·rw [if_pos c17] at H
           have c17b0 : decide (0 < ((rd_L1 l0_1 x6_1).length : Int)) = true := decide_eq_true c17
           have c17b1 : decide (0 < (rd_L1 l0_1 x6_1).length) = true := decide_eq_true (by omega)
           clear c17
           by_cases c18 : x5_1.length < 17592186044416
           ·rw [if_pos c18] at H
            have LMc18 := Aside0.mk c18
            clear c18
            obtain ⟨y423, hy423⟩ : ∃ y_ : List Int, y_ = (x5_1 ++ [rd (rd_L1 l0_1 x6_1) 0]) := ⟨_, rfl⟩
            replace H : (spec_AttackersOf.l0 kj5 a1 y423 (wrap64 (x6_1 + 1)) a0_0 l0_1) = some r := hy_ hy423 H
            have Ny423 := Aside0.mk hy423
            clear hy423
            have H' := Aside0.mk H
            clear H
            have hcz19_0 : wc.cell? ⟨gb414, 0, none⟩ = some (.int .i64 a0_0) := (Za BK414.out 0).trans rfl
            have hcz19_1 : wc.cell? ⟨gb414, 1, none⟩ = some (.slice A0_1 l0_1.length c0_1) := (Za BK414.out 1).trans rfl
            have hfz19_0 := Zb BK414.out 0
            have hfz19_1 := Zb BK414.out 1
            have p419 : 0 ≤ (x6_1 : Int) := of_decide_eq_true as_
            have q419 : x6_1 < (l0_1.length : Int) := of_decide_eq_true as_
            obtain ⟨ad419, A419_0, c419_0, e419, hx419_0, hl419_0, hi419_0⟩ := at_L1 HR0_1.out x6_1 p419 q419
            cases e419
            replace hx419_0 := (HB.out.cell (World.block_lt_of_cell? w _ hx419_0)).trans hx419_0
            have HR419_0 := Aside0.mk hi419_0
            have HC419_0 := Aside0.mk hl419_0
            clear hi419_0 hl419_0
            replace p419 := eq_true p419
            replace q419 := eq_true q419
            have p420 : 0 ≤ (1 : Int) := (by omega)
            have q420 : 1 < ((rd_L1 l0_1 x6_1).length : Int) := of_decide_eq_true as_
            obtain ⟨ad420, e420, hx420_0⟩ := Zv HR419_0.out 1 p420 q420
            cases e420
            (try simp only [show (1 : Int).toNat = 1 from rfl, Nat.reduceMul, Nat.reduceEqDiff, Go.Addr.add, ↓reduceIte] at hx420_0)
            have qi420 : (1 < (rd_L1 l0_1 x6_1).length) = True := eq_true (by omega)
            (try rw [show ((1 : Int)).toNat = 1 from rfl] at hx420_0)
            replace hx420_0 := (HB.out.cell (World.block_lt_of_cell? w _ hx420_0)).trans hx420_0
            replace p420 := eq_true p420
            replace q420 := eq_true q420
            have p421 : 0 ≤ (x6_1 : Int) := of_decide_eq_true as_
            have q421 : x6_1 < (l0_1.length : Int) := of_decide_eq_true as_
            obtain ⟨ad421, A421_0, c421_0, e421, hx421_0, hl421_0, hi421_0⟩ := at_L1 HR0_1.out x6_1 p421 q421
            obtain rfl : ad419 = ad421 := (by injection e421)
            replace hx421_0 := (HB.out.cell (World.block_lt_of_cell? w _ hx421_0)).trans hx421_0
            have HR421_0 := Aside0.mk hi421_0
            have HC421_0 := Aside0.mk hl421_0
            clear hi421_0 hl421_0
            replace p421 := eq_true p421
            replace q421 := eq_true q421
            have ea_ := Option.some.inj (hx419_0.symm.trans hx421_0)
            injection ea_ with ea_ en_ ec_
            subst ea_
            subst ec_
            clear en_
            have p422 : 0 ≤ (0 : Int) := (by omega)
            have q422 : 0 < ((rd_L1 l0_1 x6_1).length : Int) := of_decide_eq_true as_
            obtain ⟨ad422, e422, hx422_0⟩ := Zv HR421_0.out 0 p422 q422
            cases e422
            have qi422 : (0 < (rd_L1 l0_1 x6_1).length) = True := eq_true (by omega)
            (try rw [show ((0 : Int)).toNat = 0 from rfl] at hx422_0)
            (try rw [Addr.add_zero'] at hx422_0)
            replace hx422_0 := (HB.out.cell (World.block_lt_of_cell? w _ hx422_0)).trans hx422_0
            replace p422 := eq_true p422
            replace q422 := eq_true q422
            go_wp2_with (first | ((with_reducible refine gate_builtin (b := .append) (xs := #[.tmp 28, .tmp 36]) rfl ?_); at_builtin; refine Kd.R_append (Kd.int .i64) (w0 := w) w.heap.size rfl (.tmp 28) (.tmp 36) 31 3 (.int .i64 0) 8 rfl Try.underlying31 info3 rfl (by decide) (by omega) u5 x5_1 (rd (rd_L1 l0_1 x6_1) 0) [.int .i64 (rd (rd_L1 l0_1 x6_1) 0)] (fun _ => True) (fun _ => False) rfl rfl ?aP (fun _ hk => hk.elim) ?aF ?aO ?aB ?aS ?aL ?_; (case aP => exact rfl); (case aB => exact hB_); (case aF => exact (fun _ _ => trivial)); (case aO => exact (rR_ HO_5.out)); (case aS => exact (Zl hB_)); (case aL => have := LMc18.out; omega); intro v424 w20 ho hb hg hat; rw [← Ny423.out] at ho; have n0_ := Aside0.mk (ZO (g := gb414) (o := .cells #[.int .i64 a0_0, .slice (some ad419) l0_1.length c0_1] 27 (0, 0)) (bk_ BK414.out) hg (Kd.R_ne HO_5.out BK414.out (by decide))); have n1_ := Aside0.mk (hb); have n2_ := Aside0.mk (ho); clear BK414; clear HB; clear HO_5; have BK414 := n0_; have HB := n1_; have HO425 := n2_; clear n0_ n1_ n2_; clear ho hb hg hat))
            go_roundg kj5
            case measure => have := HK1.out; have := HJ5.out; omega
            case rel => exact ⟨(y423), (wrap64 (x6_1 + 1)), sm_, H', ⟨by have := HK1.out; have := HJ5.out; omega⟩, ⟨rR_ HO425.out⟩, ⟨bk_ BK414.out⟩, ⟨hB_⟩⟩
           ·rw [if_neg c18] at H
            exact absurd H (by simp)
          ·rw [if_neg c17] at H
           exact absurd H (by simp)
         ·rw [if_neg c16] at H
          have c16b0 : ((rd (rd_L1 l0_1 x6_1) 1) == a1) = false := beq_eq_false_iff_ne.mpr c16
          have c16b1 : ((rd (rd_L1 l0_1 x6_1) 1) != a1) = true := bne_iff_ne.mpr c16
          have H' := Aside0.mk H
          clear H
          have hcz21_0 : wc.cell? ⟨gb414, 0, none⟩ = some (.int .i64 a0_0) := (Za BK414.out 0).trans rfl
          have hcz21_1 : wc.cell? ⟨gb414, 1, none⟩ = some (.slice A0_1 l0_1.length c0_1) := (Za BK414.out 1).trans rfl
          have hfz21_0 := Zb BK414.out 0
          have hfz21_1 := Zb BK414.out 1
          have p419 : 0 ≤ (x6_1 : Int) := of_decide_eq_true as_
          have q419 : x6_1 < (l0_1.length : Int) := of_decide_eq_true as_
          obtain ⟨ad419, A419_0, c419_0, e419, hx419_0, hl419_0, hi419_0⟩ := at_L1 HR0_1.out x6_1 p419 q419
          cases e419
          replace hx419_0 := (HB.out.cell (World.block_lt_of_cell? w _ hx419_0)).trans hx419_0
          have HR419_0 := Aside0.mk hi419_0
          have HC419_0 := Aside0.mk hl419_0
          clear hi419_0 hl419_0
          replace p419 := eq_true p419
          replace q419 := eq_true q419
          have p420 : 0 ≤ (1 : Int) := (by omega)
          have q420 : 1 < ((rd_L1 l0_1 x6_1).length : Int) := of_decide_eq_true as_
          obtain ⟨ad420, e420, hx420_0⟩ := Zv HR419_0.out 1 p420 q420
          cases e420
          (try simp only [show (1 : Int).toNat = 1 from rfl, Nat.reduceMul, Nat.reduceEqDiff, Go.Addr.add, ↓reduceIte] at hx420_0)
          have qi420 : (1 < (rd_L1 l0_1 x6_1).length) = True := eq_true (by omega)
          (try rw [show ((1 : Int)).toNat = 1 from rfl] at hx420_0)
          replace hx420_0 := (HB.out.cell (World.block_lt_of_cell? w _ hx420_0)).trans hx420_0
          replace p420 := eq_true p420
          replace q420 := eq_true q420
          go_wp2
          go_roundg kj5
          case measure => have := HK1.out; have := HJ5.out; omega
          case rel => exact ⟨(x5_1), (wrap64 (x6_1 + 1)), sm_, H', ⟨by have := HK1.out; have := HJ5.out; omega⟩, ⟨rR_ HO_5.out⟩, ⟨bk_ BK414.out⟩, ⟨hB_⟩⟩
        ·rw [if_neg c15] at H
         exact absurd H (by simp)
       ·rw [if_neg c14] at H
        exact absurd H (by simp)
      ·rw [if_neg c13] at H
       exact absurd H (by simp)
     ·replace c12 := Bool.eq_false_iff.mpr c12
      subst c12
      have H1 : (some x5_1) = some r := by rw [if_neg (show ¬ (false = true) by decide)] at H; exact H
      clear H
      have H := H1
      clear H1
      obtain rfl := Option.some.inj H
      go_wp2
      go_ret
      exact ⟨_, er_, rR_ HO_5.out, hB_⟩

end Go.Proofs.Ytdlobolnajcfnaa.PFnGames
