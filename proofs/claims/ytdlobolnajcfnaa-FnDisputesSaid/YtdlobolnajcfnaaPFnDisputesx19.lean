-- Written by a program of this session (hooks of mine on the print): Lean checks it.
import Derived.Test.YtdlobolnajcfnaaPFnDisputesx0
import Derived.Test.YtdlobolnajcfnaaPFnDisputesx5
import Derived.Test.YtdlobolnajcfnaaPFnDisputesx6
import Derived.Test.YtdlobolnajcfnaaPFnDisputesx10
import Derived.Test.YtdlobolnajcfnaaPFnDisputesx12
namespace Go.Proofs.Ytdlobolnajcfnaa.PFnDisputes
open Go.RowKit Go.Proofs.YtdlobolnajcfnaaW.PrintWords Go.Proofs.YtdlobolnajcfnaaW.PrintLast Go.Proofs.YtdlobolnajcfnaaW.PrintMore
attribute [local go_sem] max2_int min2_int max_two min_two max_three min_three max_four min_four   -- for this text's walks alone
set_option linter.unusedVariables false
set_option linter.unusedSimpArgs false

/-! ### spec_DrawIsPartOf: function 51 -/
def spec_DrawIsPartOf.j0 : Nat → Int → List (List Int) → Int → List (List Int) → Option (Int × (List (List Int)) × Int × (List (List Int)))
 | 0, _, _, _, _ => none
 | k + 1, x595000, x595001, x606000, x606001 => some (x595000, x595001, x606000, x606001)
def spec_DrawIsPartOf.f (k : Nat) (l0 : List Int) : Option (Int × (List (List Int)) × Int × (List (List Int))) := (spec_l1New.f k l0).bind fun bt584 => ((spec_l4Any.f k bt584.1 bt584.2.1 bt584.2.2).bind fun bt588 => ((spec_l4Set.f k bt584.1 bt588.2.2.1 bt588.2.2.2 bt588.1 bt588.2.1).bind fun bt595 => ((spec_WithClaim.f k bt588.1 bt588.2.1 bt595.1).bind fun bt600 => ((spec_l1Once.f bt584.1 bt595.2.1 bt595.2.2 4).bind fun bt606 => (if bt606.1 = true then ((spec_l4Any.f k bt584.1 bt606.2.1 bt606.2.2).bind fun bt609 => (spec_DrawIsPartOf.j0 k bt588.1 bt588.2.1 bt609.1 bt609.2.1)) else (spec_DrawIsPartOf.j0 k bt588.1 bt588.2.1 bt600.1 bt600.2.1))))))
theorem spec_DrawIsPartOf.mono_l : ∀ k, (∀ y0 y1 y2 y3, LeO (spec_DrawIsPartOf.j0 k y0 y1 y2 y3) (spec_DrawIsPartOf.j0 (k + 1) y0 y1 y2 y3))
 | 0 => fun _ _ _ _ r h => by simp [spec_DrawIsPartOf.j0] at h
 | k + 1 => by
  have ih0 := spec_DrawIsPartOf.mono_l k
  ·intro y0 y1 y2 y3
   unfold spec_DrawIsPartOf.j0
   repeat' with_reducible first | apply ih0 | apply spec_WithClaim.mono | apply spec_l1New.mono | apply spec_l4Any.mono | apply spec_l4Set.mono | apply ZJ | apply Zn | refine Zu ?_ ?_ | refine Zo ?_ (fun _ => ?_)
theorem spec_DrawIsPartOf.mono : ∀ a0 k, LeO (spec_DrawIsPartOf.f k a0) (spec_DrawIsPartOf.f (k + 1) a0) := by
 intro a0 k
 have ih0 := spec_DrawIsPartOf.mono_l k
 unfold spec_DrawIsPartOf.f
 repeat' with_reducible first | apply ih0 | apply spec_WithClaim.mono | apply spec_l1New.mono | apply spec_l4Any.mono | apply spec_l4Set.mono | apply ZJ | apply Zn | refine Zu ?_ ?_ | refine Zo ?_ (fun _ => ?_)
def spec_DrawIsPartOf.T3 : Bool × List (List Nat × List Nat) := (true, [([], []), ([], []), ([], []), ([1, 2], [1, 2]), ([0, 3, 3], [0, 3]), ([4], [4]), ([5], [5]), ([5], [5]), ([], []), ([8, 6, 4, 0, 1, 2, 3, 4, 5, 6, 8], [6, 8]), ([7, 9, 0, 1, 2, 3, 4, 5, 6, 7, 8, 9], [7])])
def spec_DrawIsPartOf.B3 : List Nat := [0, 0, 0, 6, 15, 31, 63, 63, 0, 383, 1023]
theorem spec_DrawIsPartOf.tab3 : rtab .any (opsOf Try.f51 3) = spec_DrawIsPartOf.T3 := by kernel_rfl
theorem spec_DrawIsPartOf.bits3 : waitsOk spec_DrawIsPartOf.T3.2 spec_DrawIsPartOf.B3 = true := by kernel_rfl
set_option maxHeartbeats 8000000 in
set_option maxRecDepth 100000 in
theorem spec_DrawIsPartOf.calls (k : Nat) (A0 : Option Addr) (c0 : Nat) (l0 : List Int) (r1 : Int) (r2 : List (List Int)) (r3 : Int) (r4 : List (List Int)) (w : World) (hr0 : Kd.C (Kd.int .u8) w A0 l0.length l0) (hc0 : l0.length ≤ c0) (h : spec_DrawIsPartOf.f k l0 = some (r1, r2, r3, r4)) :
  Calls Try.prog 51 #[.slice A0 l0.length c0] w fun e w' => ∃ v1_ v3_ : Value, e = .returned (.tuple #[.agg #[.int .i64 r1, v1_], .agg #[.int .i64 r3, v3_]]) ∧ Kd.S (Kd.slice 3 (Kd.int .i64)) 31 w' w.heap.size (fun k_ => some k_ ≠ (v3_ : Value).ownBlock) v1_ r2 ∧ Kd.S (Kd.slice 3 (Kd.int .i64)) 31 w' w.heap.size (fun k_ => some k_ ≠ (v1_ : Value).ownBlock) v3_ r4 ∧ Below w.heap.size w w' := by
 have hu27 := Try.underlying27
 have HR0 := Aside0.mk hr0
 have HC0 := Aside0.mk hc0
 clear hr0 hc0
 have HB := Aside0.mk (Below.refl w.heap.size w)
 have H := h
 unfold spec_DrawIsPartOf.f at H
 clear h
 obtain ⟨⟨t584, t585, t586⟩, A2, H⟩ := bd_ H
 try dsimp only at H
 obtain ⟨⟨t588, t589, t592, t593⟩, A3, H⟩ := bd_ H
 try dsimp only at H
 obtain ⟨⟨t595, t598, t599⟩, A4, H⟩ := bd_ H
 try dsimp only at H
 obtain ⟨⟨t600, t601, t604⟩, A5, H⟩ := bd_ H
 try dsimp only at H
 obtain ⟨⟨t606, t607, t608⟩, A6, H⟩ := bd_ H
 try dsimp only at H
 have HC7 := Aside0.mk H
 clear H
 go_enter Try.func51, Try.ntmps51
 try go_wp2_with (first | ((with_reducible refine ZA (N := 2) rfl ?_); refine ZC ?hg (N := 2) ?hd (cs := #[.int .i64 0, .slice none 0 0]) (t := 27) ?hr ?_; (case hd => rfl); (case hg => rfl); (case hr => first | (go_simp; done) | (go_simp; rfl)); intro gb582 hg w8 hbox hb; have BK582 := Aside0.mk (hbox); have GW582 := Aside0.mk ((hz_ hg : w.heap.size ≤ gb582)); have GE582 := Aside0.mk ((hz_ hg : w.heap.size ≤ gb582)); replace HB := Aside0.mk (Zh hB_ hb); clear hb hbox hg) | ((with_reducible refine ZA (N := 3) rfl ?_); refine ZC ?hg (N := 3) ?hd (cs := #[.int .i64 0, .slice none 0 0]) (t := 27) ?hr ?_; (case hd => rfl); (case hg => rfl); (case hr => first | (go_simp; done) | (go_simp; rfl)); intro gb583 hg w9 hbox hb; have BK583 := Aside0.mk (hbox); have GW583 := Aside0.mk ((hz_ hg : w.heap.size ≤ gb583)); have GE583 := Aside0.mk ((hz_ hg : w.heap.size ≤ gb583)); replace HB := Aside0.mk (Zh hB_ hb); have NB582_583 := Aside0.mk ((by rw [hg]; exact Nat.ne_of_lt (ZS (bq_ BK582.out)) : gb582 ≠ gb583)); have NB583_582 := Aside0.mk ((by rw [hg]; exact Nat.ne_of_gt (ZS (bq_ BK582.out)) : gb583 ≠ gb582)); replace BK582 := Aside0.mk (Zg (bq_ BK582.out) hb); clear hb hbox hg) | ((with_reducible refine Zl (f := 82) rfl ?_); refine ZI (some 9) rfl rfl Try.func82 (by kernel_rfl) rfl #[.slice A0 l0.length c0] rfl ar_ ?_; (with_reducible refine (spec_l1New.calls k _ _ l0 t584 t585 t586 w _ ?side1 ?side2 ?side3 A2.out).mono ?_); (case side1 => repeat (first | (with_reducible first | exact HB.out | apply Zk | apply Zi | apply Zj | refine Zc ?_ GE582.out | refine Zc ?_ GE583.out) | exact HB.out)); (case side2 => exact HR0.out); (case side3 => exact HC0.out); rintro e w10 ⟨g587, rfl, hi, hb, hb2⟩; refine ⟨_, rfl, ?_⟩; replace HB := Aside0.mk (hb); have HI587 := Aside0.mk (hi); have NB587_582 := Aside0.mk (IsS93.ne_blk hi (Zg (bq_ BK582.out) hb2) (by decide)); have NB582_587 := Aside0.mk (Ne.symm (IsS93.ne_blk hi (Zg (bq_ BK582.out) hb2) (by decide))); replace BK582 := Aside0.mk (Zg (bq_ BK582.out) hb2); have NB587_583 := Aside0.mk (IsS93.ne_blk hi (Zg (bq_ BK583.out) hb2) (by decide)); have NB583_587 := Aside0.mk (Ne.symm (IsS93.ne_blk hi (Zg (bq_ BK583.out) hb2) (by decide))); replace BK583 := Aside0.mk (Zg (bq_ BK583.out) hb2); (try clear hb); (try clear hb2); (try clear hk); (try clear hi)) | ((with_reducible refine Zl (f := 96) rfl ?_); refine ZI (some 11) rfl rfl Try.func96 (by kernel_rfl) rfl #[.pointer (some ⟨g587, 0, none⟩)] rfl ar_ ?_; (with_reducible refine (spec_l4Any.calls k g587 t584 t585 t586 t588 t589 t592 t593 w _ ?side1 ?side2 A3.out).mono ?_); (case side1 => repeat (first | (with_reducible first | exact HI587.out | apply IsS93.alloc | apply IsS93.drewN | apply IsS93.drew | apply IsS93.set_1 | apply IsS93.set_2 | refine IsS93.far ?_ NB587_582.out _ | refine IsS93.far ?_ NB587_583.out _) | exact HI587.out)); (case side2 => repeat (first | (with_reducible first | exact HB.out | apply Zk | apply Zi | apply Zj | refine Zc ?_ (IsS93.ge HI587.out) | refine Zc ?_ GE582.out | refine Zc ?_ GE583.out) | exact HB.out)); rintro e w11 ⟨v590, rfl, ho0, hi, hb, hk⟩; refine ⟨_, rfl, ?_⟩; replace BK582 := Aside0.mk (ZR hk (g' := gb582) (o := .cells #[.int .i64 0, .slice none 0 0] 27 (0, 0)) (bk_ BK582.out) NB582_587.out (by simp)); replace BK583 := Aside0.mk (ZR hk (g' := gb583) (o := .cells #[.int .i64 0, .slice none 0 0] 27 (0, 0)) (bk_ BK583.out) NB583_587.out (by simp)); have HO591 := Aside0.mk (Kd.S_lower ho0 (Zm (by repeat (first | (with_reducible first | exact HB.out | apply Zk | apply Zi | apply Zj | refine Zc ?_ (IsS93.ge HI587.out) | refine Zc ?_ GE582.out | refine Zc ?_ GE583.out) | exact HB.out)))); replace HB := Aside0.mk (hb); replace HI587 := Aside0.mk (hi); (try clear hb); (try clear hb2); (try clear hk); (try clear hi); (try clear ho0)) | ((with_reducible refine ZA (N := 5) rfl ?_); refine ZC ?hg (N := 5) ?hd (cs := #[.int .i64 0, .slice none 0 0]) (t := 27) ?hr ?_; (case hd => rfl); (case hg => rfl); (case hr => first | (go_simp; done) | (go_simp; rfl)); intro gb594 hg w12 hbox hb; replace HO591 := Aside0.mk (Zz (rS_ HO591.out) hb); have BK594 := Aside0.mk (hbox); have GW594 := Aside0.mk ((by rw [hg]; exact (Zm (by repeat (first | (with_reducible first | exact HB.out | apply Zk | apply Zi | apply Zj | refine Zc ?_ (IsS93.ge HI587.out) | refine Zc ?_ GE582.out | refine Zc ?_ GE583.out) | exact HB.out))) : w.heap.size ≤ gb594)); have GE594 := Aside0.mk ((by rw [hg]; exact (Zm (by repeat (first | (with_reducible first | exact HB.out | apply Zk | apply Zi | apply Zj | refine Zc ?_ (IsS93.ge HI587.out) | refine Zc ?_ GE582.out | refine Zc ?_ GE583.out) | exact HB.out))) : w.heap.size ≤ gb594)); replace HB := Aside0.mk (Zh (by repeat (first | (with_reducible first | exact HB.out | apply Zk | apply Zi | apply Zj | refine Zc ?_ (IsS93.ge HI587.out) | refine Zc ?_ GE582.out | refine Zc ?_ GE583.out) | exact HB.out)) hb); have NB582_594 := Aside0.mk ((by rw [hg]; exact Nat.ne_of_lt (ZS (bq_ BK582.out)) : gb582 ≠ gb594)); have NB594_582 := Aside0.mk ((by rw [hg]; exact Nat.ne_of_gt (ZS (bq_ BK582.out)) : gb594 ≠ gb582)); replace BK582 := Aside0.mk (Zg (bq_ BK582.out) hb); have NB583_594 := Aside0.mk ((by rw [hg]; exact Nat.ne_of_lt (ZS (bq_ BK583.out)) : gb583 ≠ gb594)); have NB594_583 := Aside0.mk ((by rw [hg]; exact Nat.ne_of_gt (ZS (bq_ BK583.out)) : gb594 ≠ gb583)); replace BK583 := Aside0.mk (Zg (bq_ BK583.out) hb); have NB587_594 := Aside0.mk ((by rw [hg]; exact Nat.ne_of_lt (IsS93.lt (show IsS93 w _ g587 t584 t592 t593 from by repeat (first | (with_reducible first | exact HI587.out | apply IsS93.alloc | apply IsS93.drewN | apply IsS93.drew | apply IsS93.set_1 | apply IsS93.set_2 | refine IsS93.far ?_ NB587_582.out _ | refine IsS93.far ?_ NB587_583.out _) | exact HI587.out))) : g587 ≠ gb594)); have NB594_587 := Aside0.mk ((by rw [hg]; exact Nat.ne_of_gt (IsS93.lt (show IsS93 w _ g587 t584 t592 t593 from by repeat (first | (with_reducible first | exact HI587.out | apply IsS93.alloc | apply IsS93.drewN | apply IsS93.drew | apply IsS93.set_1 | apply IsS93.set_2 | refine IsS93.far ?_ NB587_582.out _ | refine IsS93.far ?_ NB587_583.out _) | exact HI587.out))) : gb594 ≠ g587)); replace HI587 := Aside0.mk (IsS93.below (by repeat (first | (with_reducible first | exact HI587.out | apply IsS93.alloc | apply IsS93.drewN | apply IsS93.drew | apply IsS93.set_1 | apply IsS93.set_2 | refine IsS93.far ?_ NB587_582.out _ | refine IsS93.far ?_ NB587_583.out _) | exact HI587.out)) hb); clear hb hbox hg; have hnb13 := NB594_582.out; have hnc13 := NB582_594.out; have hnb14 := NB594_583.out; have hnc14 := NB583_594.out; have hnb15 := NB594_587.out; have hnc15 := NB587_594.out; obtain ⟨hcz16_0, hcz16_1, hfz16_0, hfz16_1⟩ := c2_ BK594.out; obtain ⟨Ao17, co17, eo17⟩ := ZN HO591.out; subst eo17))
 have n0_ : Aside0 (Kd.S (Kd.slice 3 (Kd.int .i64)) 31 ((w12.setCell ⟨gb594, 0, none⟩ (.int .i64 t588)).setCell ⟨gb594, 1, none⟩ (.slice Ao17 t589.length co17)) w.heap.size (fun _ => True) (.slice Ao17 t589.length co17) t589) := ⟨by (with_reducible repeat (first | apply Zs | apply Zr | apply Zp)); exact Zt (Zq (p := ⟨gb594, 1, none⟩) (Zq (p := ⟨gb594, 0, none⟩) (Zv HO591.out BK594.out (by decide)) (fun _ hk => hk.2) (.int .i64 t588)) (fun _ hk => hk.2) (.slice Ao17 t589.length co17)) (fun _ hk => trivial)⟩
 have n1_ : Aside0 (((w12.setCell ⟨gb594, 0, none⟩ (.int .i64 t588)).setCell ⟨gb594, 1, none⟩ (.slice Ao17 t589.length co17)).heap[gb582]? = some (.cells #[.int .i64 0, .slice none 0 0] 27 (0, 0))) := ⟨by (with_reducible repeat (first | refine Ze ?_ _ | refine Zf ?_ | refine Zd ?_ _)); refine ZG ?_ NB582_594.out _; (with_reducible repeat (first | refine Ze ?_ _ | refine Zf ?_ | refine Zd ?_ _)); refine ZG ?_ NB582_594.out _; (with_reducible repeat (first | refine Ze ?_ _ | refine Zf ?_ | refine Zd ?_ _)); exact BK582.out⟩
 have n2_ : Aside0 (((w12.setCell ⟨gb594, 0, none⟩ (.int .i64 t588)).setCell ⟨gb594, 1, none⟩ (.slice Ao17 t589.length co17)).heap[gb583]? = some (.cells #[.int .i64 0, .slice none 0 0] 27 (0, 0))) := ⟨by (with_reducible repeat (first | refine Ze ?_ _ | refine Zf ?_ | refine Zd ?_ _)); refine ZG ?_ NB583_594.out _; (with_reducible repeat (first | refine Ze ?_ _ | refine Zf ?_ | refine Zd ?_ _)); refine ZG ?_ NB583_594.out _; (with_reducible repeat (first | refine Ze ?_ _ | refine Zf ?_ | refine Zd ?_ _)); exact BK583.out⟩
 have n3_ : Aside0 (((w12.setCell ⟨gb594, 0, none⟩ (.int .i64 t588)).setCell ⟨gb594, 1, none⟩ (.slice Ao17 t589.length co17)).heap[gb594]? = some (.cells #[.int .i64 t588, .slice Ao17 t589.length co17] 27 (0, 0))) := ⟨by (with_reducible repeat (first | refine Ze ?_ _ | refine Zf ?_ | refine Zd ?_ _)); refine ZB (cs := #[.int .i64 t588, .slice none 0 0]) ?_ 1 _ rfl; (with_reducible repeat (first | refine Ze ?_ _ | refine Zf ?_ | refine Zd ?_ _)); refine ZB (cs := #[.int .i64 0, .slice none 0 0]) ?_ 0 _ rfl; (with_reducible repeat (first | refine Ze ?_ _ | refine Zf ?_ | refine Zd ?_ _)); exact BK594.out⟩
 have n4_ : Aside0 (IsS93 w ((w12.setCell ⟨gb594, 0, none⟩ (.int .i64 t588)).setCell ⟨gb594, 1, none⟩ (.slice Ao17 t589.length co17)) g587 t584 t592 t593) := ⟨by repeat (first | (with_reducible first | exact HI587.out | apply IsS93.alloc | apply IsS93.drewN | apply IsS93.drew | apply IsS93.set_1 | apply IsS93.set_2 | refine IsS93.far ?_ NB587_582.out _ | refine IsS93.far ?_ NB587_583.out _ | refine IsS93.far ?_ NB587_594.out _) | exact HI587.out)⟩
 have n5_ : Aside0 (Below w.heap.size w ((w12.setCell ⟨gb594, 0, none⟩ (.int .i64 t588)).setCell ⟨gb594, 1, none⟩ (.slice Ao17 t589.length co17))) := ⟨by repeat (first | (with_reducible first | exact HB.out | apply Zk | apply Zi | apply Zj | refine Zc ?_ (IsS93.ge HI587.out) | refine Zc ?_ GE582.out | refine Zc ?_ GE583.out | refine Zc ?_ GE594.out) | exact HB.out)⟩
 (try clear HO591)
 (try clear BK582)
 (try clear BK583)
 (try clear BK594)
 (try clear HI587)
 (try clear HB)
 generalize ((w12.setCell ⟨gb594, 0, none⟩ (.int .i64 t588)).setCell ⟨gb594, 1, none⟩ (.slice Ao17 t589.length co17)) = w18 at n0_ n1_ n2_ n3_ n4_ n5_ ⊢
 have HO591 := n0_
 have BK582 := n1_
 have BK583 := n2_
 have BK594 := n3_
 have HI587 := n4_
 have HB := n5_
 clear n0_ n1_ n2_ n3_ n4_ n5_
 replace HO591 := Aside0.mk (Zp HO591.out)
 replace BK582 := Aside0.mk (Zf BK582.out)
 replace BK583 := Aside0.mk (Zf BK583.out)
 replace BK594 := Aside0.mk (Zf BK594.out)
 replace HI587 := Aside0.mk (IsS93.drew HI587.out)
 replace HB := Aside0.mk (Zj HB.out)
 refine start_ (n := 11) (S := fun w' => w'.cell? ⟨gb594, 0, none⟩ = some (.int .i64 t588) ∧ w'.cell? ⟨gb594, 1, none⟩ = some (.slice Ao17 t589.length co17)) (ds := []) (m_ 11 0) (by kernel_rfl) rfl rfl ⟨(Za BK594.out 0).trans rfl, (Za BK594.out 1).trans rfl⟩ (fun hHeld => ?_); refine with_tabW spec_DrawIsPartOf.tab3 spec_DrawIsPartOf.bits3 (fun HT_ HW_ => ?_)
 generalize w18.drew = w19 at HO591 BK582 BK583 BK594 HI587 HB hHeld ⊢
 refine pu_ 1 14 (m_ 11 2) ?_
 refine tk2_ 0 13 (m_ 11 3) hHeld ?_
 refine tk2_ 2 15 (m_ 11 7) hHeld ?_
 refine join_ (σ := Value × Value × Nat) 2 (m_ 11 511) (fun s_ => [(16, s_.1), (17, .tuple #[.agg #[.int .i64 t600, s_.2.1], .bool t604]), (6, .pointer (some ⟨s_.2.2, 0, none⟩)), (12, .tuple #[.agg #[.int .i64 t600, s_.2.1], .bool t604]), (18, .agg #[.int .i64 t600, s_.2.1]), (19, .bool t604)]) (fun s_ w' => (w'.cell? ⟨gb594, 0, none⟩ = some (.int .i64 t588) ∧ w'.cell? ⟨gb594, 1, none⟩ = some (.slice Ao17 t589.length co17)) ∧ (Kd.S (Kd.slice 3 (Kd.int .i64)) 31 w' w.heap.size (fun k_ => some k_ ≠ (s_.1 : Value).ownBlock ∧ some k_ ≠ (s_.2.1 : Value).ownBlock) (.slice Ao17 t589.length co17) t589) ∧ (Kd.R (Kd.int .i64) 3 w' w.heap.size (fun _ => True) s_.1 t595) ∧ (Kd.S (Kd.slice 3 (Kd.int .i64)) 31 w' w.heap.size (fun k_ => some k_ ≠ (.slice Ao17 t589.length co17 : Value).ownBlock ∧ some k_ ≠ (s_.1 : Value).ownBlock) s_.2.1 t601) ∧ (w'.heap[gb582]? = some (.cells #[.int .i64 0, .slice none 0 0] 27 (0, 0))) ∧ (w'.heap[gb583]? = some (.cells #[.int .i64 0, .slice none 0 0] 27 (0, 0))) ∧ (w'.heap[gb594]? = some (.cells #[.int .i64 t588, .slice Ao17 t589.length co17] 27 (0, 0))) ∧ (w'.heap[s_.2.2]? = some (.cells #[.int .i64 0, .slice none 0 0] 27 (0, 0))) ∧ (w.heap.size ≤ s_.2.2) ∧ (w.heap.size ≤ s_.2.2) ∧ (g587 ≠ s_.2.2) ∧ (s_.2.2 ≠ g587) ∧ (gb582 ≠ s_.2.2) ∧ (s_.2.2 ≠ gb582) ∧ (gb583 ≠ s_.2.2) ∧ (s_.2.2 ≠ gb583) ∧ (gb594 ≠ s_.2.2) ∧ (s_.2.2 ≠ gb594) ∧ (IsS93 w w' g587 t584 t598 t599) ∧ (Below w.heap.size w w')) ?_ ?_
 rotate_left
 ·intro hCont
  refine two_ (i := 3) (j := 8) (Ni := some 16) (Nj := some 6) (m_ 11 15) (m_ 11 263) rfl rfl rfl rfl (two_of HT_.out (by kernel_rfl)) (by decide) (by decide) (fun K hK => ?_) (fun K hK => ?_)
  rotate_left
  ·skip
   refine box_step ?hg (N := 6) ?hd (cs := #[.int .i64 0, .slice none 0 0]) (t := 27) ?hr ?_; (case hd => rfl); (case hg => rfl); (case hr => first | (go_simp; done) | (go_simp; rfl))
   intro gb605 hg w20 hbox hb
   have n0_ := Aside0.mk (Zz (rS_ HO591.out) hb)
   have n1_ := Aside0.mk (Zg (bq_ BK582.out) hb)
   have n2_ := Aside0.mk (Zg (bq_ BK583.out) hb)
   have n3_ := Aside0.mk (IsS93.below (by repeat (first | (with_reducible first | exact HI587.out | apply IsS93.alloc | apply IsS93.drewN | apply IsS93.drew | apply IsS93.set_1 | apply IsS93.set_2 | refine IsS93.far ?_ NB587_582.out _ | refine IsS93.far ?_ NB587_583.out _ | refine IsS93.far ?_ NB587_594.out _) | exact HI587.out)) hb)
   have n4_ := Aside0.mk (Zg (bq_ BK594.out) hb)
   have n5_ := Aside0.mk (Zh (by repeat (first | (with_reducible first | exact HB.out | apply Zk | apply Zi | apply Zj | refine Zc ?_ (IsS93.ge HI587.out) | refine Zc ?_ GE582.out | refine Zc ?_ GE583.out | refine Zc ?_ GE594.out) | exact HB.out)) hb)
   have n6_ := Aside0.mk (hbox)
   have n7_ := Aside0.mk ((by rw [hg]; exact (Zm (by repeat (first | (with_reducible first | exact HB.out | apply Zk | apply Zi | apply Zj | refine Zc ?_ (IsS93.ge HI587.out) | refine Zc ?_ GE582.out | refine Zc ?_ GE583.out | refine Zc ?_ GE594.out) | exact HB.out))) : w.heap.size ≤ gb605))
   have n8_ := Aside0.mk ((by rw [hg]; exact (Zm (by repeat (first | (with_reducible first | exact HB.out | apply Zk | apply Zi | apply Zj | refine Zc ?_ (IsS93.ge HI587.out) | refine Zc ?_ GE582.out | refine Zc ?_ GE583.out | refine Zc ?_ GE594.out) | exact HB.out))) : w.heap.size ≤ gb605))
   have n9_ := Aside0.mk ((by rw [hg]; exact Nat.ne_of_lt (ZS (bq_ BK582.out)) : gb582 ≠ gb605))
   have n10_ := Aside0.mk ((by rw [hg]; exact Nat.ne_of_gt (ZS (bq_ BK582.out)) : gb605 ≠ gb582))
   have n11_ := Aside0.mk ((by rw [hg]; exact Nat.ne_of_lt (ZS (bq_ BK583.out)) : gb583 ≠ gb605))
   have n12_ := Aside0.mk ((by rw [hg]; exact Nat.ne_of_gt (ZS (bq_ BK583.out)) : gb605 ≠ gb583))
   have n13_ := Aside0.mk ((by rw [hg]; exact Nat.ne_of_lt (ZS (bq_ BK594.out)) : gb594 ≠ gb605))
   have n14_ := Aside0.mk ((by rw [hg]; exact Nat.ne_of_gt (ZS (bq_ BK594.out)) : gb605 ≠ gb594))
   have n15_ := Aside0.mk ((by rw [hg]; exact Nat.ne_of_lt (IsS93.lt (show IsS93 w _ g587 t584 t592 t593 from by repeat (first | (with_reducible first | exact HI587.out | apply IsS93.alloc | apply IsS93.drewN | apply IsS93.drew | apply IsS93.set_1 | apply IsS93.set_2 | refine IsS93.far ?_ NB587_582.out _ | refine IsS93.far ?_ NB587_583.out _ | refine IsS93.far ?_ NB587_594.out _) | exact HI587.out))) : g587 ≠ gb605))
   have n16_ := Aside0.mk ((by rw [hg]; exact Nat.ne_of_gt (IsS93.lt (show IsS93 w _ g587 t584 t592 t593 from by repeat (first | (with_reducible first | exact HI587.out | apply IsS93.alloc | apply IsS93.drewN | apply IsS93.drew | apply IsS93.set_1 | apply IsS93.set_2 | refine IsS93.far ?_ NB587_582.out _ | refine IsS93.far ?_ NB587_583.out _ | refine IsS93.far ?_ NB587_594.out _) | exact HI587.out))) : gb605 ≠ g587))
   clear HO591
   clear BK582
   clear BK583
   clear HI587
   clear BK594
   clear HB
   have HO591 := n0_
   have BK582 := n1_
   have BK583 := n2_
   have HI587 := n3_
   have BK594 := n4_
   have HB := n5_
   have BK605 := n6_
   have GW605 := n7_
   have GE605 := n8_
   have NB582_605 := n9_
   have NB605_582 := n10_
   have NB583_605 := n11_
   have NB605_583 := n12_
   have NB594_605 := n13_
   have NB605_594 := n14_
   have NB587_605 := n15_
   have NB605_587 := n16_
   clear n0_ n1_ n2_ n3_ n4_ n5_ n6_ n7_ n8_ n9_ n10_ n11_ n12_ n13_ n14_ n15_ n16_
   clear hb hbox hg
   refine hK.out _ _ ⟨(Za BK594.out 0).trans rfl, (Za BK594.out 1).trans rfl⟩ (fun hHeld => ?_)
   clear hK K
   refine no_ 6 ?_
   refine on_ 3 16 (m_ 11 271) (fun K hK => ?_)
   refine goes_ Try.func100 (by kernel_rfl) rfl #[.pointer (some ⟨g587, 0, none⟩), .agg #[.int .i64 t588, .slice Ao17 t589.length co17]] (by rfl) rfl rfl ar_ ?_
   with_reducible refine (spec_l4Set.calls k g587 t584 t592 t593 t588 _ _ t589 t595 t598 t599 w _ ?side1 ?side2 ?side3 ?side4 A4.out).mono ?_
   (case side1 => repeat (first | (with_reducible first | exact HI587.out | apply IsS93.alloc | apply IsS93.drewN | apply IsS93.drew | apply IsS93.set_1 | apply IsS93.set_2 | refine IsS93.far ?_ NB587_582.out _ | refine IsS93.far ?_ NB587_583.out _ | refine IsS93.far ?_ NB587_594.out _ | refine IsS93.far ?_ NB587_605.out _) | exact HI587.out))
   (case side2 => repeat (first | (with_reducible first | exact HB.out | apply Zk | apply Zi | apply Zj | refine Zc ?_ (IsS93.ge HI587.out) | refine Zc ?_ GE582.out | refine Zc ?_ GE583.out | refine Zc ?_ GE594.out | refine Zc ?_ GE605.out) | exact HB.out))
   (case side3 => exact Kd.C_foot_own ((Kd.S_R (IsS93.apartS (show IsS93 w _ g587 t584 t592 t593 from by repeat (first | (with_reducible first | exact HI587.out | apply IsS93.alloc | apply IsS93.drewN | apply IsS93.drew | apply IsS93.set_1 | apply IsS93.set_2 | refine IsS93.far ?_ NB587_582.out _ | refine IsS93.far ?_ NB587_583.out _ | refine IsS93.far ?_ NB587_594.out _ | refine IsS93.far ?_ NB587_605.out _) | exact HI587.out)) (rS_ HO591.out) (by decide)))) (fun _ h_ => h_.2))
   (case side4 => exact (ZK HO591.out).2.1)
   rintro e w21 ⟨v596, rfl, ho0, hi, hb, hk⟩
   refine ⟨_, rfl, ?_⟩
   replace BK582 := Aside0.mk (ZR hk (g' := gb582) (o := .cells #[.int .i64 0, .slice none 0 0] 27 (0, 0)) (bk_ BK582.out) NB582_587.out (by simp))
   replace BK583 := Aside0.mk (ZR hk (g' := gb583) (o := .cells #[.int .i64 0, .slice none 0 0] 27 (0, 0)) (bk_ BK583.out) NB583_587.out (by simp))
   replace HO591 := Aside0.mk (Zt (Kd.S_told (Kd.S_oldK (IsS93.apartS (show IsS93 w _ g587 t584 t592 t593 from by repeat (first | (with_reducible first | exact HI587.out | apply IsS93.alloc | apply IsS93.drewN | apply IsS93.drew | apply IsS93.set_1 | apply IsS93.set_2 | refine IsS93.far ?_ NB587_582.out _ | refine IsS93.far ?_ NB587_583.out _ | refine IsS93.far ?_ NB587_594.out _ | refine IsS93.far ?_ NB587_605.out _) | exact HI587.out)) (rS_ HO591.out) (by decide)) hk) (Kd.R_base ho0)) (fun _ h_ => h_.1))
   replace BK594 := Aside0.mk (ZR hk (g' := gb594) (o := .cells #[.int .i64 t588, .slice Ao17 t589.length co17] 27 (0, 0)) (bk_ BK594.out) NB594_587.out (by simp))
   replace BK605 := Aside0.mk (ZR hk (g' := gb605) (o := .cells #[.int .i64 0, .slice none 0 0] 27 (0, 0)) (bk_ BK605.out) NB605_587.out (by simp))
   have HO597 := Aside0.mk (Kd.R_lower ho0 (Zm (by repeat (first | (with_reducible first | exact HB.out | apply Zk | apply Zi | apply Zj | refine Zc ?_ (IsS93.ge HI587.out) | refine Zc ?_ GE582.out | refine Zc ?_ GE583.out | refine Zc ?_ GE594.out | refine Zc ?_ GE605.out) | exact HB.out))))
   replace HB := Aside0.mk (hb)
   replace HI587 := Aside0.mk (hi)
   (try clear hb)
   (try clear hb2)
   (try clear hk)
   (try clear hi)
   (try clear ho0)
   obtain ⟨Ao22, co22, eo22⟩ := Kd.R_slice HO597.out
   (first | subst eo22 | (injection eo22 with f1_ f2_ f3_; have f4_ := f1_.symm; have f5_ := f3_.symm; clear f1_ f2_ f3_; subst f4_; subst f5_))
   refine hK.out _ _ ⟨(Za BK594.out 0).trans rfl, (Za BK594.out 1).trans rfl⟩ (fun hHeld => ?_)
   clear hK K
   refine no_ 16 ?_
   refine on_ 4 17 (m_ 11 287) (fun K hK => ?_)
   refine goes_ Try.func43 (by kernel_rfl) rfl #[.agg #[.int .i64 t588, .slice Ao17 t589.length co17], .slice Ao22 t595.length co22] (by rfl) rfl rfl ar_ ?_
   with_reducible refine (spec_WithClaim.calls k t588 _ _ t589 _ _ t595 t600 t601 t604 _ ?side1 ?side2 ?side3 ?side4 A5.out).mono ?_
   (case side1 => exact sA_ (ZK HO591.out).2.2)
   (case side2 => exact (ZK HO591.out).2.1)
   (case side3 => exact sA_ (ZF HO597.out).2.2)
   (case side4 => exact (ZF HO597.out).2.1)
   rintro e w23 ⟨v602, rfl, ho0, hb⟩
   refine ⟨_, rfl, ?_⟩
   have HO603 := Aside0.mk (Kd.S_lower (Kd.S_new' (Kd.S_new' ho0 (Kd.S_lt (rS_ HO591.out))) (Kd.R_lt (rR_ HO597.out))) (Zm (by repeat (first | (with_reducible first | exact HB.out | apply Zk | apply Zi | apply Zj | refine Zc ?_ (IsS93.ge HI587.out) | refine Zc ?_ GE582.out | refine Zc ?_ GE583.out | refine Zc ?_ GE594.out | refine Zc ?_ GE605.out) | exact HB.out))))
   replace HO591 := Aside0.mk (Kd.S_elder' (rS_ HO591.out) (Kd.S_base ho0) hb)
   replace HO597 := Aside0.mk (Kd.R_below (rR_ HO597.out) hb)
   replace BK582 := Aside0.mk (Zg (bq_ BK582.out) hb)
   replace BK583 := Aside0.mk (Zg (bq_ BK583.out) hb)
   replace BK594 := Aside0.mk (Zg (bq_ BK594.out) hb)
   replace BK605 := Aside0.mk (Zg (bq_ BK605.out) hb)
   replace HB := Aside0.mk (Zh (by repeat (first | (with_reducible first | exact HB.out | apply Zk | apply Zi | apply Zj | refine Zc ?_ (IsS93.ge HI587.out) | refine Zc ?_ GE582.out | refine Zc ?_ GE583.out | refine Zc ?_ GE594.out | refine Zc ?_ GE605.out) | exact HB.out)) hb)
   replace HI587 := Aside0.mk (IsS93.below (by repeat (first | (with_reducible first | exact HI587.out | apply IsS93.alloc | apply IsS93.drewN | apply IsS93.drew | apply IsS93.set_1 | apply IsS93.set_2 | refine IsS93.far ?_ NB587_582.out _ | refine IsS93.far ?_ NB587_583.out _ | refine IsS93.far ?_ NB587_594.out _ | refine IsS93.far ?_ NB587_605.out _) | exact HI587.out)) hb)
   (try clear hb)
   (try clear hb2)
   (try clear hk)
   (try clear hi)
   (try clear ho0)
   refine hK.out _ _ ⟨(Za BK594.out 0).trans rfl, (Za BK594.out 1).trans rfl⟩ (fun hHeld => ?_)
   clear hK K
   refine no_ 17 ?_
   refine pu_ 5 12 (m_ 11 319) ?_
   refine pu_ 6 18 (m_ 11 383) ?_
   refine pu_ 7 19 (m_ 11 511) ?_
   exact norm_ (by simp only [putAll, Act.put, ZW, List.set_cons_zero, List.set_cons_succ]) (hCont (.slice Ao22 t595.length co22, v602, gb605) _ ⟨hHeld, (by (with_reducible repeat (first | apply Zs | apply Zr | apply Zp)); exact Zt HO591.out (fun _ hk => ⟨hk.1.2, hk.2⟩)), (rR_ HO597.out), (by (with_reducible repeat (first | apply Zs | apply Zr | apply Zp)); exact Zt HO603.out (fun _ hk => ⟨hk.1.2, hk.2⟩)), (bk_ BK582.out), (bk_ BK583.out), (bk_ BK594.out), (bk_ BK605.out), GW605.out, GE605.out, NB587_605.out, NB605_587.out, NB582_605.out, NB605_582.out, NB583_605.out, NB605_583.out, NB594_605.out, NB605_594.out, (by repeat (first | (with_reducible first | exact HI587.out | apply IsS93.alloc | apply IsS93.drewN | apply IsS93.drew | apply IsS93.set_1 | apply IsS93.set_2 | refine IsS93.far ?_ NB587_582.out _ | refine IsS93.far ?_ NB587_583.out _ | refine IsS93.far ?_ NB587_594.out _ | refine IsS93.far ?_ NB587_605.out _) | exact HI587.out)), (by repeat (first | (with_reducible first | exact HB.out | apply Zk | apply Zi | apply Zj | refine Zc ?_ (IsS93.ge HI587.out) | refine Zc ?_ GE582.out | refine Zc ?_ GE583.out | refine Zc ?_ GE594.out | refine Zc ?_ GE605.out) | exact HB.out))⟩)
  skip
  refine goes_ Try.func100 (by kernel_rfl) rfl #[.pointer (some ⟨g587, 0, none⟩), .agg #[.int .i64 t588, .slice Ao17 t589.length co17]] (by rfl) rfl rfl ar_ ?_
  with_reducible refine (spec_l4Set.calls k g587 t584 t592 t593 t588 _ _ t589 t595 t598 t599 w _ ?side1 ?side2 ?side3 ?side4 A4.out).mono ?_
  (case side1 => repeat (first | (with_reducible first | exact HI587.out | apply IsS93.alloc | apply IsS93.drewN | apply IsS93.drew | apply IsS93.set_1 | apply IsS93.set_2 | refine IsS93.far ?_ NB587_582.out _ | refine IsS93.far ?_ NB587_583.out _ | refine IsS93.far ?_ NB587_594.out _) | exact HI587.out))
  (case side2 => repeat (first | (with_reducible first | exact HB.out | apply Zk | apply Zi | apply Zj | refine Zc ?_ (IsS93.ge HI587.out) | refine Zc ?_ GE582.out | refine Zc ?_ GE583.out | refine Zc ?_ GE594.out) | exact HB.out))
  (case side3 => exact Kd.C_foot_own ((Kd.S_R (IsS93.apartS (show IsS93 w _ g587 t584 t592 t593 from by repeat (first | (with_reducible first | exact HI587.out | apply IsS93.alloc | apply IsS93.drewN | apply IsS93.drew | apply IsS93.set_1 | apply IsS93.set_2 | refine IsS93.far ?_ NB587_582.out _ | refine IsS93.far ?_ NB587_583.out _ | refine IsS93.far ?_ NB587_594.out _) | exact HI587.out)) (rS_ HO591.out) (by decide)))) (fun _ h_ => h_.2))
  (case side4 => exact (ZK HO591.out).2.1)
  rintro e w20 ⟨v596, rfl, ho0, hi, hb, hk⟩
  refine ⟨_, rfl, ?_⟩
  replace BK582 := Aside0.mk (ZR hk (g' := gb582) (o := .cells #[.int .i64 0, .slice none 0 0] 27 (0, 0)) (bk_ BK582.out) NB582_587.out (by simp))
  replace BK583 := Aside0.mk (ZR hk (g' := gb583) (o := .cells #[.int .i64 0, .slice none 0 0] 27 (0, 0)) (bk_ BK583.out) NB583_587.out (by simp))
  replace HO591 := Aside0.mk (Zt (Kd.S_told (Kd.S_oldK (IsS93.apartS (show IsS93 w _ g587 t584 t592 t593 from by repeat (first | (with_reducible first | exact HI587.out | apply IsS93.alloc | apply IsS93.drewN | apply IsS93.drew | apply IsS93.set_1 | apply IsS93.set_2 | refine IsS93.far ?_ NB587_582.out _ | refine IsS93.far ?_ NB587_583.out _ | refine IsS93.far ?_ NB587_594.out _) | exact HI587.out)) (rS_ HO591.out) (by decide)) hk) (Kd.R_base ho0)) (fun _ h_ => h_.1))
  replace BK594 := Aside0.mk (ZR hk (g' := gb594) (o := .cells #[.int .i64 t588, .slice Ao17 t589.length co17] 27 (0, 0)) (bk_ BK594.out) NB594_587.out (by simp))
  have HO597 := Aside0.mk (Kd.R_lower ho0 (Zm (by repeat (first | (with_reducible first | exact HB.out | apply Zk | apply Zi | apply Zj | refine Zc ?_ (IsS93.ge HI587.out) | refine Zc ?_ GE582.out | refine Zc ?_ GE583.out | refine Zc ?_ GE594.out) | exact HB.out))))
  replace HB := Aside0.mk (hb)
  replace HI587 := Aside0.mk (hi)
  (try clear hb)
  (try clear hb2)
  (try clear hk)
  (try clear hi)
  (try clear ho0)
  obtain ⟨Ao21, co21, eo21⟩ := Kd.R_slice HO597.out
  (first | subst eo21 | (injection eo21 with f1_ f2_ f3_; have f4_ := f1_.symm; have f5_ := f3_.symm; clear f1_ f2_ f3_; subst f4_; subst f5_))
  refine hK.out _ _ ⟨(Za BK594.out 0).trans rfl, (Za BK594.out 1).trans rfl⟩ (fun hHeld => ?_)
  clear hK K
  refine no_ 16 ?_
  refine two_ (i := 4) (j := 8) (Ni := some 17) (Nj := some 6) (m_ 11 31) (m_ 11 271) rfl rfl rfl rfl (two_of HT_.out (by kernel_rfl)) (by decide) (by decide) (fun K hK => ?_) (fun K hK => ?_)
  ·skip
   refine goes_ Try.func43 (by kernel_rfl) rfl #[.agg #[.int .i64 t588, .slice Ao17 t589.length co17], .slice Ao21 t595.length co21] (by rfl) rfl rfl ar_ ?_
   with_reducible refine (spec_WithClaim.calls k t588 _ _ t589 _ _ t595 t600 t601 t604 _ ?side1 ?side2 ?side3 ?side4 A5.out).mono ?_
   (case side1 => exact sA_ (ZK HO591.out).2.2)
   (case side2 => exact (ZK HO591.out).2.1)
   (case side3 => exact sA_ (ZF HO597.out).2.2)
   (case side4 => exact (ZF HO597.out).2.1)
   rintro e w22 ⟨v602, rfl, ho0, hb⟩
   refine ⟨_, rfl, ?_⟩
   have HO603 := Aside0.mk (Kd.S_lower (Kd.S_new' (Kd.S_new' ho0 (Kd.S_lt (rS_ HO591.out))) (Kd.R_lt (rR_ HO597.out))) (Zm (by repeat (first | (with_reducible first | exact HB.out | apply Zk | apply Zi | apply Zj | refine Zc ?_ (IsS93.ge HI587.out) | refine Zc ?_ GE582.out | refine Zc ?_ GE583.out | refine Zc ?_ GE594.out) | exact HB.out))))
   replace HO591 := Aside0.mk (Kd.S_elder' (rS_ HO591.out) (Kd.S_base ho0) hb)
   replace HO597 := Aside0.mk (Kd.R_below (rR_ HO597.out) hb)
   replace BK582 := Aside0.mk (Zg (bq_ BK582.out) hb)
   replace BK583 := Aside0.mk (Zg (bq_ BK583.out) hb)
   replace BK594 := Aside0.mk (Zg (bq_ BK594.out) hb)
   replace HB := Aside0.mk (Zh (by repeat (first | (with_reducible first | exact HB.out | apply Zk | apply Zi | apply Zj | refine Zc ?_ (IsS93.ge HI587.out) | refine Zc ?_ GE582.out | refine Zc ?_ GE583.out | refine Zc ?_ GE594.out) | exact HB.out)) hb)
   replace HI587 := Aside0.mk (IsS93.below (by repeat (first | (with_reducible first | exact HI587.out | apply IsS93.alloc | apply IsS93.drewN | apply IsS93.drew | apply IsS93.set_1 | apply IsS93.set_2 | refine IsS93.far ?_ NB587_582.out _ | refine IsS93.far ?_ NB587_583.out _ | refine IsS93.far ?_ NB587_594.out _) | exact HI587.out)) hb)
   (try clear hb)
   (try clear hb2)
   (try clear hk)
   (try clear hi)
   (try clear ho0)
   refine hK.out _ _ ⟨(Za BK594.out 0).trans rfl, (Za BK594.out 1).trans rfl⟩ (fun hHeld => ?_)
   clear hK K
   refine no_ 17 ?_
   refine pu_ 5 12 (m_ 11 63) ?_
   refine pu_ 6 18 (m_ 11 127) ?_
   refine pu_ 7 19 (m_ 11 255) ?_
   refine on_ 8 6 (m_ 11 511) (fun K hK => ?_)
   refine box_step ?hg (N := 6) ?hd (cs := #[.int .i64 0, .slice none 0 0]) (t := 27) ?hr ?_; (case hd => rfl); (case hg => rfl); (case hr => first | (go_simp; done) | (go_simp; rfl))
   intro gb605 hg w23 hbox hb
   have n0_ := Aside0.mk (Zz (rS_ HO591.out) hb)
   have n1_ := Aside0.mk (Kd.R_below (rR_ HO597.out) hb)
   have n2_ := Aside0.mk (Zz (rS_ HO603.out) hb)
   have n3_ := Aside0.mk (Zg (bq_ BK582.out) hb)
   have n4_ := Aside0.mk (Zg (bq_ BK583.out) hb)
   have n5_ := Aside0.mk (IsS93.below (by repeat (first | (with_reducible first | exact HI587.out | apply IsS93.alloc | apply IsS93.drewN | apply IsS93.drew | apply IsS93.set_1 | apply IsS93.set_2 | refine IsS93.far ?_ NB587_582.out _ | refine IsS93.far ?_ NB587_583.out _ | refine IsS93.far ?_ NB587_594.out _) | exact HI587.out)) hb)
   have n6_ := Aside0.mk (Zg (bq_ BK594.out) hb)
   have n7_ := Aside0.mk (Zh (by repeat (first | (with_reducible first | exact HB.out | apply Zk | apply Zi | apply Zj | refine Zc ?_ (IsS93.ge HI587.out) | refine Zc ?_ GE582.out | refine Zc ?_ GE583.out | refine Zc ?_ GE594.out) | exact HB.out)) hb)
   have n8_ := Aside0.mk (hbox)
   have n9_ := Aside0.mk ((by rw [hg]; exact (Zm (by repeat (first | (with_reducible first | exact HB.out | apply Zk | apply Zi | apply Zj | refine Zc ?_ (IsS93.ge HI587.out) | refine Zc ?_ GE582.out | refine Zc ?_ GE583.out | refine Zc ?_ GE594.out) | exact HB.out))) : w.heap.size ≤ gb605))
   have n10_ := Aside0.mk ((by rw [hg]; exact (Zm (by repeat (first | (with_reducible first | exact HB.out | apply Zk | apply Zi | apply Zj | refine Zc ?_ (IsS93.ge HI587.out) | refine Zc ?_ GE582.out | refine Zc ?_ GE583.out | refine Zc ?_ GE594.out) | exact HB.out))) : w.heap.size ≤ gb605))
   have n11_ := Aside0.mk ((by rw [hg]; exact Nat.ne_of_lt (ZS (bq_ BK582.out)) : gb582 ≠ gb605))
   have n12_ := Aside0.mk ((by rw [hg]; exact Nat.ne_of_gt (ZS (bq_ BK582.out)) : gb605 ≠ gb582))
   have n13_ := Aside0.mk ((by rw [hg]; exact Nat.ne_of_lt (ZS (bq_ BK583.out)) : gb583 ≠ gb605))
   have n14_ := Aside0.mk ((by rw [hg]; exact Nat.ne_of_gt (ZS (bq_ BK583.out)) : gb605 ≠ gb583))
   have n15_ := Aside0.mk ((by rw [hg]; exact Nat.ne_of_lt (ZS (bq_ BK594.out)) : gb594 ≠ gb605))
   have n16_ := Aside0.mk ((by rw [hg]; exact Nat.ne_of_gt (ZS (bq_ BK594.out)) : gb605 ≠ gb594))
   have n17_ := Aside0.mk ((by rw [hg]; exact Nat.ne_of_lt (IsS93.lt (show IsS93 w _ g587 t584 t598 t599 from by repeat (first | (with_reducible first | exact HI587.out | apply IsS93.alloc | apply IsS93.drewN | apply IsS93.drew | apply IsS93.set_1 | apply IsS93.set_2 | refine IsS93.far ?_ NB587_582.out _ | refine IsS93.far ?_ NB587_583.out _ | refine IsS93.far ?_ NB587_594.out _) | exact HI587.out))) : g587 ≠ gb605))
   have n18_ := Aside0.mk ((by rw [hg]; exact Nat.ne_of_gt (IsS93.lt (show IsS93 w _ g587 t584 t598 t599 from by repeat (first | (with_reducible first | exact HI587.out | apply IsS93.alloc | apply IsS93.drewN | apply IsS93.drew | apply IsS93.set_1 | apply IsS93.set_2 | refine IsS93.far ?_ NB587_582.out _ | refine IsS93.far ?_ NB587_583.out _ | refine IsS93.far ?_ NB587_594.out _) | exact HI587.out))) : gb605 ≠ g587))
   clear HO591
   clear HO597
   clear HO603
   clear BK582
   clear BK583
   clear HI587
   clear BK594
   clear HB
   have HO591 := n0_
   have HO597 := n1_
   have HO603 := n2_
   have BK582 := n3_
   have BK583 := n4_
   have HI587 := n5_
   have BK594 := n6_
   have HB := n7_
   have BK605 := n8_
   have GW605 := n9_
   have GE605 := n10_
   have NB582_605 := n11_
   have NB605_582 := n12_
   have NB583_605 := n13_
   have NB605_583 := n14_
   have NB594_605 := n15_
   have NB605_594 := n16_
   have NB587_605 := n17_
   have NB605_587 := n18_
   clear n0_ n1_ n2_ n3_ n4_ n5_ n6_ n7_ n8_ n9_ n10_ n11_ n12_ n13_ n14_ n15_ n16_ n17_ n18_
   clear hb hbox hg
   refine hK.out _ _ ⟨(Za BK594.out 0).trans rfl, (Za BK594.out 1).trans rfl⟩ (fun hHeld => ?_)
   clear hK K
   refine no_ 6 ?_
   exact norm_ (by simp only [putAll, Act.put, ZW, List.set_cons_zero, List.set_cons_succ]) (hCont (.slice Ao21 t595.length co21, v602, gb605) _ ⟨hHeld, (by (with_reducible repeat (first | apply Zs | apply Zr | apply Zp)); exact Zt HO591.out (fun _ hk => ⟨hk.1.2, hk.2⟩)), (rR_ HO597.out), (by (with_reducible repeat (first | apply Zs | apply Zr | apply Zp)); exact Zt HO603.out (fun _ hk => ⟨hk.1.2, hk.2⟩)), (bk_ BK582.out), (bk_ BK583.out), (bk_ BK594.out), (bk_ BK605.out), GW605.out, GE605.out, NB587_605.out, NB605_587.out, NB582_605.out, NB605_582.out, NB583_605.out, NB605_583.out, NB594_605.out, NB605_594.out, (by repeat (first | (with_reducible first | exact HI587.out | apply IsS93.alloc | apply IsS93.drewN | apply IsS93.drew | apply IsS93.set_1 | apply IsS93.set_2 | refine IsS93.far ?_ NB587_582.out _ | refine IsS93.far ?_ NB587_583.out _ | refine IsS93.far ?_ NB587_594.out _ | refine IsS93.far ?_ NB587_605.out _) | exact HI587.out)), (by repeat (first | (with_reducible first | exact HB.out | apply Zk | apply Zi | apply Zj | refine Zc ?_ (IsS93.ge HI587.out) | refine Zc ?_ GE582.out | refine Zc ?_ GE583.out | refine Zc ?_ GE594.out | refine Zc ?_ GE605.out) | exact HB.out))⟩)
  skip
  refine box_step ?hg (N := 6) ?hd (cs := #[.int .i64 0, .slice none 0 0]) (t := 27) ?hr ?_; (case hd => rfl); (case hg => rfl); (case hr => first | (go_simp; done) | (go_simp; rfl))
  intro gb605 hg w21 hbox hb
  have n0_ := Aside0.mk (Zz (rS_ HO591.out) hb)
  have n1_ := Aside0.mk (Kd.R_below (rR_ HO597.out) hb)
  have n2_ := Aside0.mk (Zg (bq_ BK582.out) hb)
  have n3_ := Aside0.mk (Zg (bq_ BK583.out) hb)
  have n4_ := Aside0.mk (IsS93.below (by repeat (first | (with_reducible first | exact HI587.out | apply IsS93.alloc | apply IsS93.drewN | apply IsS93.drew | apply IsS93.set_1 | apply IsS93.set_2 | refine IsS93.far ?_ NB587_582.out _ | refine IsS93.far ?_ NB587_583.out _ | refine IsS93.far ?_ NB587_594.out _) | exact HI587.out)) hb)
  have n5_ := Aside0.mk (Zg (bq_ BK594.out) hb)
  have n6_ := Aside0.mk (Zh (by repeat (first | (with_reducible first | exact HB.out | apply Zk | apply Zi | apply Zj | refine Zc ?_ (IsS93.ge HI587.out) | refine Zc ?_ GE582.out | refine Zc ?_ GE583.out | refine Zc ?_ GE594.out) | exact HB.out)) hb)
  have n7_ := Aside0.mk (hbox)
  have n8_ := Aside0.mk ((by rw [hg]; exact (Zm (by repeat (first | (with_reducible first | exact HB.out | apply Zk | apply Zi | apply Zj | refine Zc ?_ (IsS93.ge HI587.out) | refine Zc ?_ GE582.out | refine Zc ?_ GE583.out | refine Zc ?_ GE594.out) | exact HB.out))) : w.heap.size ≤ gb605))
  have n9_ := Aside0.mk ((by rw [hg]; exact (Zm (by repeat (first | (with_reducible first | exact HB.out | apply Zk | apply Zi | apply Zj | refine Zc ?_ (IsS93.ge HI587.out) | refine Zc ?_ GE582.out | refine Zc ?_ GE583.out | refine Zc ?_ GE594.out) | exact HB.out))) : w.heap.size ≤ gb605))
  have n10_ := Aside0.mk ((by rw [hg]; exact Nat.ne_of_lt (ZS (bq_ BK582.out)) : gb582 ≠ gb605))
  have n11_ := Aside0.mk ((by rw [hg]; exact Nat.ne_of_gt (ZS (bq_ BK582.out)) : gb605 ≠ gb582))
  have n12_ := Aside0.mk ((by rw [hg]; exact Nat.ne_of_lt (ZS (bq_ BK583.out)) : gb583 ≠ gb605))
  have n13_ := Aside0.mk ((by rw [hg]; exact Nat.ne_of_gt (ZS (bq_ BK583.out)) : gb605 ≠ gb583))
  have n14_ := Aside0.mk ((by rw [hg]; exact Nat.ne_of_lt (ZS (bq_ BK594.out)) : gb594 ≠ gb605))
  have n15_ := Aside0.mk ((by rw [hg]; exact Nat.ne_of_gt (ZS (bq_ BK594.out)) : gb605 ≠ gb594))
  have n16_ := Aside0.mk ((by rw [hg]; exact Nat.ne_of_lt (IsS93.lt (show IsS93 w _ g587 t584 t598 t599 from by repeat (first | (with_reducible first | exact HI587.out | apply IsS93.alloc | apply IsS93.drewN | apply IsS93.drew | apply IsS93.set_1 | apply IsS93.set_2 | refine IsS93.far ?_ NB587_582.out _ | refine IsS93.far ?_ NB587_583.out _ | refine IsS93.far ?_ NB587_594.out _) | exact HI587.out))) : g587 ≠ gb605))
  have n17_ := Aside0.mk ((by rw [hg]; exact Nat.ne_of_gt (IsS93.lt (show IsS93 w _ g587 t584 t598 t599 from by repeat (first | (with_reducible first | exact HI587.out | apply IsS93.alloc | apply IsS93.drewN | apply IsS93.drew | apply IsS93.set_1 | apply IsS93.set_2 | refine IsS93.far ?_ NB587_582.out _ | refine IsS93.far ?_ NB587_583.out _ | refine IsS93.far ?_ NB587_594.out _) | exact HI587.out))) : gb605 ≠ g587))
  clear HO591
  clear HO597
  clear BK582
  clear BK583
  clear HI587
  clear BK594
  clear HB
  have HO591 := n0_
  have HO597 := n1_
  have BK582 := n2_
  have BK583 := n3_
  have HI587 := n4_
  have BK594 := n5_
  have HB := n6_
  have BK605 := n7_
  have GW605 := n8_
  have GE605 := n9_
  have NB582_605 := n10_
  have NB605_582 := n11_
  have NB583_605 := n12_
  have NB605_583 := n13_
  have NB594_605 := n14_
  have NB605_594 := n15_
  have NB587_605 := n16_
  have NB605_587 := n17_
  clear n0_ n1_ n2_ n3_ n4_ n5_ n6_ n7_ n8_ n9_ n10_ n11_ n12_ n13_ n14_ n15_ n16_ n17_
  clear hb hbox hg
  obtain ⟨Ao22, co22, eo22⟩ := Kd.R_slice HO597.out
  (first | subst eo22 | (injection eo22 with f1_ f2_ f3_; have f4_ := f1_.symm; have f5_ := f3_.symm; clear f1_ f2_ f3_; subst f4_; subst f5_))
  refine hK.out _ _ ⟨(Za BK594.out 0).trans rfl, (Za BK594.out 1).trans rfl⟩ (fun hHeld => ?_)
  clear hK K
  refine no_ 6 ?_
  refine on_ 4 17 (m_ 11 287) (fun K hK => ?_)
  refine goes_ Try.func43 (by kernel_rfl) rfl #[.agg #[.int .i64 t588, .slice Ao17 t589.length co17], .slice Ao22 t595.length co22] (by rfl) rfl rfl ar_ ?_
  with_reducible refine (spec_WithClaim.calls k t588 _ _ t589 _ _ t595 t600 t601 t604 _ ?side1 ?side2 ?side3 ?side4 A5.out).mono ?_
  (case side1 => exact sA_ (ZK HO591.out).2.2)
  (case side2 => exact (ZK HO591.out).2.1)
  (case side3 => exact sA_ (ZF HO597.out).2.2)
  (case side4 => exact (ZF HO597.out).2.1)
  rintro e w23 ⟨v602, rfl, ho0, hb⟩
  refine ⟨_, rfl, ?_⟩
  have HO603 := Aside0.mk (Kd.S_lower (Kd.S_new' (Kd.S_new' ho0 (Kd.S_lt (rS_ HO591.out))) (Kd.R_lt (rR_ HO597.out))) (Zm (by repeat (first | (with_reducible first | exact HB.out | apply Zk | apply Zi | apply Zj | refine Zc ?_ (IsS93.ge HI587.out) | refine Zc ?_ GE582.out | refine Zc ?_ GE583.out | refine Zc ?_ GE594.out | refine Zc ?_ GE605.out) | exact HB.out))))
  replace HO591 := Aside0.mk (Kd.S_elder' (rS_ HO591.out) (Kd.S_base ho0) hb)
  replace HO597 := Aside0.mk (Kd.R_below (rR_ HO597.out) hb)
  replace BK582 := Aside0.mk (Zg (bq_ BK582.out) hb)
  replace BK583 := Aside0.mk (Zg (bq_ BK583.out) hb)
  replace BK594 := Aside0.mk (Zg (bq_ BK594.out) hb)
  replace BK605 := Aside0.mk (Zg (bq_ BK605.out) hb)
  replace HB := Aside0.mk (Zh (by repeat (first | (with_reducible first | exact HB.out | apply Zk | apply Zi | apply Zj | refine Zc ?_ (IsS93.ge HI587.out) | refine Zc ?_ GE582.out | refine Zc ?_ GE583.out | refine Zc ?_ GE594.out | refine Zc ?_ GE605.out) | exact HB.out)) hb)
  replace HI587 := Aside0.mk (IsS93.below (by repeat (first | (with_reducible first | exact HI587.out | apply IsS93.alloc | apply IsS93.drewN | apply IsS93.drew | apply IsS93.set_1 | apply IsS93.set_2 | refine IsS93.far ?_ NB587_582.out _ | refine IsS93.far ?_ NB587_583.out _ | refine IsS93.far ?_ NB587_594.out _ | refine IsS93.far ?_ NB587_605.out _) | exact HI587.out)) hb)
  (try clear hb)
  (try clear hb2)
  (try clear hk)
  (try clear hi)
  (try clear ho0)
  refine hK.out _ _ ⟨(Za BK594.out 0).trans rfl, (Za BK594.out 1).trans rfl⟩ (fun hHeld => ?_)
  clear hK K
  refine no_ 17 ?_
  refine pu_ 5 12 (m_ 11 319) ?_
  refine pu_ 6 18 (m_ 11 383) ?_
  refine pu_ 7 19 (m_ 11 511) ?_
  exact norm_ (by simp only [putAll, Act.put, ZW, List.set_cons_zero, List.set_cons_succ]) (hCont (.slice Ao22 t595.length co22, v602, gb605) _ ⟨hHeld, (by (with_reducible repeat (first | apply Zs | apply Zr | apply Zp)); exact Zt HO591.out (fun _ hk => ⟨hk.1.2, hk.2⟩)), (rR_ HO597.out), (by (with_reducible repeat (first | apply Zs | apply Zr | apply Zp)); exact Zt HO603.out (fun _ hk => ⟨hk.1.2, hk.2⟩)), (bk_ BK582.out), (bk_ BK583.out), (bk_ BK594.out), (bk_ BK605.out), GW605.out, GE605.out, NB587_605.out, NB605_587.out, NB582_605.out, NB605_582.out, NB583_605.out, NB605_583.out, NB594_605.out, NB605_594.out, (by repeat (first | (with_reducible first | exact HI587.out | apply IsS93.alloc | apply IsS93.drewN | apply IsS93.drew | apply IsS93.set_1 | apply IsS93.set_2 | refine IsS93.far ?_ NB587_582.out _ | refine IsS93.far ?_ NB587_583.out _ | refine IsS93.far ?_ NB587_594.out _ | refine IsS93.far ?_ NB587_605.out _) | exact HI587.out)), (by repeat (first | (with_reducible first | exact HB.out | apply Zk | apply Zi | apply Zj | refine Zc ?_ (IsS93.ge HI587.out) | refine Zc ?_ GE582.out | refine Zc ?_ GE583.out | refine Zc ?_ GE594.out | refine Zc ?_ GE605.out) | exact HB.out))⟩)
 rintro ⟨v596, v602, gb605⟩ w24 ⟨hS_, h0_, h1_, h2_, h3_, h4_, h5_, h6_, h7_, h8_, h9_, h10_, h11_, h12_, h13_, h14_, h15_, h16_, h17_, h18_⟩
 have n0_ : Aside0 (Kd.S (Kd.slice 3 (Kd.int .i64)) 31 w24 w.heap.size (fun k_ => some k_ ≠ (v596 : Value).ownBlock ∧ some k_ ≠ (v602 : Value).ownBlock) (.slice Ao17 t589.length co17) t589) := ⟨h0_⟩
 have n1_ : Aside0 (Kd.R (Kd.int .i64) 3 w24 w.heap.size (fun _ => True) v596 t595) := ⟨h1_⟩
 have n2_ : Aside0 (Kd.S (Kd.slice 3 (Kd.int .i64)) 31 w24 w.heap.size (fun k_ => some k_ ≠ (.slice Ao17 t589.length co17 : Value).ownBlock ∧ some k_ ≠ (v596 : Value).ownBlock) v602 t601) := ⟨h2_⟩
 have n3_ : Aside0 (w24.heap[gb582]? = some (.cells #[.int .i64 0, .slice none 0 0] 27 (0, 0))) := ⟨h3_⟩
 have n4_ : Aside0 (w24.heap[gb583]? = some (.cells #[.int .i64 0, .slice none 0 0] 27 (0, 0))) := ⟨h4_⟩
 have n5_ : Aside0 (w24.heap[gb594]? = some (.cells #[.int .i64 t588, .slice Ao17 t589.length co17] 27 (0, 0))) := ⟨h5_⟩
 have n6_ : Aside0 (w24.heap[gb605]? = some (.cells #[.int .i64 0, .slice none 0 0] 27 (0, 0))) := ⟨h6_⟩
 have n7_ : Aside0 (w.heap.size ≤ gb605) := ⟨h7_⟩
 have n8_ : Aside0 (w.heap.size ≤ gb605) := ⟨h8_⟩
 have n9_ : Aside0 (g587 ≠ gb605) := ⟨h9_⟩
 have n10_ : Aside0 (gb605 ≠ g587) := ⟨h10_⟩
 have n11_ : Aside0 (gb582 ≠ gb605) := ⟨h11_⟩
 have n12_ : Aside0 (gb605 ≠ gb582) := ⟨h12_⟩
 have n13_ : Aside0 (gb583 ≠ gb605) := ⟨h13_⟩
 have n14_ : Aside0 (gb605 ≠ gb583) := ⟨h14_⟩
 have n15_ : Aside0 (gb594 ≠ gb605) := ⟨h15_⟩
 have n16_ : Aside0 (gb605 ≠ gb594) := ⟨h16_⟩
 have n17_ : Aside0 (IsS93 w w24 g587 t584 t598 t599) := ⟨h17_⟩
 have n18_ : Aside0 (Below w.heap.size w w24) := ⟨h18_⟩
 clear HO591
 clear BK582
 clear BK583
 clear BK594
 clear HI587
 clear HB
 clear h0_ h1_ h2_ h3_ h4_ h5_ h6_ h7_ h8_ h9_ h10_ h11_ h12_ h13_ h14_ h15_ h16_ h17_ h18_
 have HO591 := n0_
 have HO597 := n1_
 have HO603 := n2_
 have BK582 := n3_
 have BK583 := n4_
 have BK594 := n5_
 have BK605 := n6_
 have GW605 := n7_
 have GE605 := n8_
 have NB587_605 := n9_
 have NB605_587 := n10_
 have NB582_605 := n11_
 have NB605_582 := n12_
 have NB583_605 := n13_
 have NB605_583 := n14_
 have NB594_605 := n15_
 have NB605_594 := n16_
 have HI587 := n17_
 have HB := n18_
 clear n0_ n1_ n2_ n3_ n4_ n5_ n6_ n7_ n8_ n9_ n10_ n11_ n12_ n13_ n14_ n15_ n16_ n17_ n18_
 have hHeld : w24.cell? ⟨gb594, 0, none⟩ = some (.int .i64 t588) ∧ w24.cell? ⟨gb594, 1, none⟩ = some (.slice Ao17 t589.length co17) := hS_
 obtain ⟨Ao26, co26, eo26⟩ := ZN HO603.out
 (first | subst eo26 | (injection eo26 with f1_ f2_ f3_; have f4_ := f1_.symm; have f5_ := f3_.symm; clear f1_ f2_ f3_; subst f4_; subst f5_))
 refine norm_ (a' := ?_) ?_ ?_
 rotate_left
 ·simp only [putAll, Act.put, ZW, List.set_cons_zero, List.set_cons_succ]
  rfl
 refine one_ (i := 9) (N := none) (m_ 11 1023) rfl rfl (one_of HT_.out (by kernel_rfl)) (by decide) (fun K hK => ?_)
 have hs25 : w24.cell? ⟨gb605, 0, none⟩ = some (.int .i64 0) := (Za BK605.out 0).trans rfl
 have hfs25 := Zb BK605.out 0
 have hns25_0 := NB582_605.out
 have hns25_1 := NB583_605.out
 have hns25_2 := NB594_605.out
 have hms25_0 := NB605_582.out
 have hms25_1 := NB605_583.out
 have hms25_2 := NB605_594.out
 have hs27 : w24.cell? ⟨gb605, 1, none⟩ = some (.slice none 0 0) := (Za BK605.out 1).trans rfl
 have hfs27 := Zb BK605.out 1
 have hns27_0 := NB582_605.out
 have hns27_1 := NB583_605.out
 have hns27_2 := NB594_605.out
 have hms27_0 := NB605_582.out
 have hms27_1 := NB605_583.out
 have hms27_2 := NB605_594.out
 refine skip_ (w1 := ?_) (by rfl) rfl ?_ ?_
 rotate_left
 ·go_simp
  rfl
 refine hK.out _ _ ⟨((cell_far (p := ⟨gb605, _, none⟩) NB594_605.out _).trans (((cell_far (p := ⟨gb605, _, none⟩) NB594_605.out _).trans (hHeld.1)))), ((cell_far (p := ⟨gb605, _, none⟩) NB594_605.out _).trans (((cell_far (p := ⟨gb605, _, none⟩) NB594_605.out _).trans (hHeld.2))))⟩ (fun hHeld => ?_)
 clear hK K
 refine pu_ 10 7 (m_ 11 2047) ?_
 refine done_ (done_of HT_.out (by kernel_rfl)) ?_
 go_upto_if 21 with (first | ((with_reducible refine Zl (f := 97) rfl ?_); refine ZI (some 21) rfl rfl Try.func97 (by kernel_rfl) rfl #[.pointer (some ⟨g587, 0, none⟩), .int .i64 4] rfl ar_ ?_; (with_reducible refine (spec_l1Once.calls g587 t584 t598 t599 4 t606 t607 t608 w _ ?side1 ?side2 A6.out).mono ?_); (case side1 => repeat (first | (with_reducible first | exact HI587.out | apply IsS93.alloc | apply IsS93.drewN | apply IsS93.drew | apply IsS93.set_1 | apply IsS93.set_2 | refine IsS93.far ?_ NB587_582.out _ | refine IsS93.far ?_ NB587_583.out _ | refine IsS93.far ?_ NB587_594.out _ | refine IsS93.far ?_ NB587_605.out _) | exact HI587.out)); (case side2 => repeat (first | (with_reducible first | exact HB.out | apply Zk | apply Zi | apply Zj | refine Zc ?_ (IsS93.ge HI587.out) | refine Zc ?_ GE582.out | refine Zc ?_ GE583.out | refine Zc ?_ GE594.out | refine Zc ?_ GE605.out) | exact HB.out)); rintro e w28 ⟨rfl, hi, hb, hk⟩; refine ⟨_, rfl, ?_⟩; replace BK582 := Aside0.mk (ZR hk (g' := gb582) (o := .cells #[.int .i64 0, .slice none 0 0] 27 (0, 0)) (by (with_reducible repeat (first | refine Ze ?_ _ | refine Zf ?_ | refine Zd ?_ _)); refine ZG ?_ NB582_605.out _; (with_reducible repeat (first | refine Ze ?_ _ | refine Zf ?_ | refine Zd ?_ _)); refine ZG ?_ NB582_605.out _; (with_reducible repeat (first | refine Ze ?_ _ | refine Zf ?_ | refine Zd ?_ _)); exact BK582.out) NB582_587.out (by simp)); replace BK583 := Aside0.mk (ZR hk (g' := gb583) (o := .cells #[.int .i64 0, .slice none 0 0] 27 (0, 0)) (by (with_reducible repeat (first | refine Ze ?_ _ | refine Zf ?_ | refine Zd ?_ _)); refine ZG ?_ NB583_605.out _; (with_reducible repeat (first | refine Ze ?_ _ | refine Zf ?_ | refine Zd ?_ _)); refine ZG ?_ NB583_605.out _; (with_reducible repeat (first | refine Ze ?_ _ | refine Zf ?_ | refine Zd ?_ _)); exact BK583.out) NB583_587.out (by simp)); replace HO591 := Aside0.mk (Zt (Kd.S_keep (IsS93.apartS (show IsS93 w _ g587 t584 t598 t599 from by repeat (first | (with_reducible first | exact HI587.out | apply IsS93.alloc | apply IsS93.drewN | apply IsS93.drew | apply IsS93.set_1 | apply IsS93.set_2 | refine IsS93.far ?_ NB587_582.out _ | refine IsS93.far ?_ NB587_583.out _ | refine IsS93.far ?_ NB587_594.out _ | refine IsS93.far ?_ NB587_605.out _) | exact HI587.out)) (by (with_reducible repeat (first | apply Zs | apply Zr | apply Zp)); exact (Zt (Zq (p := ⟨gb605, 1, none⟩) (Zq (p := ⟨gb605, 0, none⟩) (Zv HO591.out BK605.out (by decide)) (fun _ hk => hk.2) (.int .i64 t600)) (fun _ hk => hk.2) (.slice Ao26 t601.length co26)) (fun _ h_ => h_.1))) (by decide)) hk (fun _ h => h.2)) (fun _ h => h.1)); replace BK594 := Aside0.mk (ZR hk (g' := gb594) (o := .cells #[.int .i64 t588, .slice Ao17 t589.length co17] 27 (0, 0)) (by (with_reducible repeat (first | refine Ze ?_ _ | refine Zf ?_ | refine Zd ?_ _)); refine ZG ?_ NB594_605.out _; (with_reducible repeat (first | refine Ze ?_ _ | refine Zf ?_ | refine Zd ?_ _)); refine ZG ?_ NB594_605.out _; (with_reducible repeat (first | refine Ze ?_ _ | refine Zf ?_ | refine Zd ?_ _)); exact BK594.out) NB594_587.out (by simp)); replace HO597 := Aside0.mk (Zw (Kd.R_keep (IsS93.apart (show IsS93 w _ g587 t584 t598 t599 from by repeat (first | (with_reducible first | exact HI587.out | apply IsS93.alloc | apply IsS93.drewN | apply IsS93.drew | apply IsS93.set_1 | apply IsS93.set_2 | refine IsS93.far ?_ NB587_582.out _ | refine IsS93.far ?_ NB587_583.out _ | refine IsS93.far ?_ NB587_594.out _ | refine IsS93.far ?_ NB587_605.out _) | exact HI587.out)) (by (with_reducible repeat (first | apply ZP | apply ZO | apply ZU)); exact (Zw (Kd.R_far (p := ⟨gb605, 1, none⟩) (Kd.R_far (p := ⟨gb605, 0, none⟩) (Kd.R_types HO597.out BK605.out (by decide)) (fun _ hk => hk.2) (.int .i64 t600)) (fun _ hk => hk.2) (.slice Ao26 t601.length co26)) (fun _ h_ => h_.1))) (by decide)) hk (fun _ h => h.2)) (fun _ h => h.1)); replace HO603 := Aside0.mk (Zt (Kd.S_keep (IsS93.apartS (show IsS93 w _ g587 t584 t598 t599 from by repeat (first | (with_reducible first | exact HI587.out | apply IsS93.alloc | apply IsS93.drewN | apply IsS93.drew | apply IsS93.set_1 | apply IsS93.set_2 | refine IsS93.far ?_ NB587_582.out _ | refine IsS93.far ?_ NB587_583.out _ | refine IsS93.far ?_ NB587_594.out _ | refine IsS93.far ?_ NB587_605.out _) | exact HI587.out)) (by (with_reducible repeat (first | apply Zs | apply Zr | apply Zp)); exact (Zt (Zq (p := ⟨gb605, 1, none⟩) (Zq (p := ⟨gb605, 0, none⟩) (Zv HO603.out BK605.out (by decide)) (fun _ hk => hk.2) (.int .i64 t600)) (fun _ hk => hk.2) (.slice Ao26 t601.length co26)) (fun _ h_ => h_.1))) (by decide)) hk (fun _ h => h.2)) (fun _ h => h.1)); replace BK605 := Aside0.mk (ZR hk (g' := gb605) (o := .cells #[.int .i64 t600, .slice Ao26 t601.length co26] 27 (0, 0)) (by (with_reducible repeat (first | refine Ze ?_ _ | refine Zf ?_ | refine Zd ?_ _)); refine ZB (cs := #[.int .i64 t600, .slice none 0 0]) ?_ 1 _ rfl; (with_reducible repeat (first | refine Ze ?_ _ | refine Zf ?_ | refine Zd ?_ _)); refine ZB (cs := #[.int .i64 0, .slice none 0 0]) ?_ 0 _ rfl; (with_reducible repeat (first | refine Ze ?_ _ | refine Zf ?_ | refine Zd ?_ _)); exact BK605.out) NB605_587.out (by simp)); replace HB := Aside0.mk (hb); replace HI587 := Aside0.mk (hi); (try clear hb); (try clear hk); (try clear hi)))
 (try simp only [Act.put, ZW, List.set_cons_zero, List.set_cons_succ])
 go_cut [] (fun wc => ∃ (kq : Nat) (x606000_6 : Int) (x606001_6 : List (List Int)) (u606001 : Value), Aside0 (spec_DrawIsPartOf.j0 kq t588 t589 x606000_6 x606001_6 = some (r1, r2, r3, r4)) ∧ Aside0 (kq ≤ k) ∧ Aside0 (Kd.S (Kd.slice 3 (Kd.int .i64)) 31 wc w.heap.size (fun k_ => some k_ ≠ (u606001 : Value).ownBlock) (.slice Ao17 t589.length co17) t589) ∧ Aside0 (Kd.S (Kd.slice 3 (Kd.int .i64)) 31 wc w.heap.size (fun k_ => some k_ ≠ ((.slice Ao17 t589.length co17) : Value).ownBlock) u606001 x606001_6) ∧ Aside0 (wc.heap[gb582]? = some (.cells #[.int .i64 0, (.slice none 0 0)] 27 (0, 0))) ∧ Aside0 (wc.heap[gb583]? = some (.cells #[.int .i64 0, (.slice none 0 0)] 27 (0, 0))) ∧ Aside0 (wc.heap[gb594]? = some (.cells #[.int .i64 t588, (.slice Ao17 t589.length co17)] 27 (0, 0))) ∧ Aside0 (wc.heap[gb605]? = some (.cells #[.int .i64 x606000_6, u606001] 27 (0, 0))) ∧ Aside0 (Below w.heap.size w wc))
 case first =>
  have H := HC7.out
  clear HC7
  by_cases c29 : t606 = true
  rotate_left
  ·replace c29 := Bool.eq_false_iff.mpr c29
   subst c29
   have H1 : (spec_DrawIsPartOf.j0 k t588 t589 t600 t601) = some (r1, r2, r3, r4) := by rw [if_neg (show ¬ (false = true) by decide)] at H; exact H
   clear H
   have H := H1
   clear H1
   have H' := Aside0.mk H
   clear H
   go_wp2
   go_meet
   case rel => exact ⟨_, (t600), (t601), (.slice Ao26 t601.length co26), H', ⟨by first | omega | exact Nat.le_refl _⟩, ⟨by (with_reducible repeat (first | apply Zs | apply Zr | apply Zp)); exact Zt HO591.out (fun _ hk => hk.2)⟩, ⟨by (with_reducible repeat (first | apply Zs | apply Zr | apply Zp)); exact Zt HO603.out (fun _ hk => hk.1)⟩, ⟨bk_ BK582.out⟩, ⟨bk_ BK583.out⟩, ⟨bk_ BK594.out⟩, ⟨bk_ BK605.out⟩, ⟨by repeat (first | (with_reducible first | exact HB.out | apply Zk | apply Zi | apply Zj | refine Zc ?_ (IsS93.ge HI587.out) | refine Zc ?_ GE582.out | refine Zc ?_ GE583.out | refine Zc ?_ GE594.out | refine Zc ?_ GE605.out) | exact HB.out)⟩⟩
  subst c29
  have H1 : ((spec_l4Any.f k t584 t607 t608).bind fun bt609 => (spec_DrawIsPartOf.j0 k t588 t589 bt609.1 bt609.2.1)) = some (r1, r2, r3, r4) := by rw [if_pos rfl] at H; exact H
  clear H
  have H := H1
  clear H1
  obtain ⟨⟨t609, t610, t613, t614⟩, A30, H⟩ := bd_ H
  try dsimp only at H
  have H' := Aside0.mk H
  clear H
  have n0_ : Aside0 (Kd.S (Kd.slice 3 (Kd.int .i64)) 31 w28 w.heap.size (fun _ => True) (.slice Ao17 t589.length co17) t589) := ⟨by (with_reducible repeat (first | apply Zs | apply Zr | apply Zp)); exact Zt HO591.out (fun _ hk => trivial)⟩
  clear HO591
  have HO591 := n0_
  clear n0_
  (try clear HO597)
  (try clear HO603)
  go_wp2_with (first | ((with_reducible refine Zl (f := 96) rfl ?_); refine ZI (some 23) rfl rfl Try.func96 (by kernel_rfl) rfl #[.pointer (some ⟨g587, 0, none⟩)] rfl ar_ ?_; (with_reducible refine (spec_l4Any.calls k g587 t584 t607 t608 t609 t610 t613 t614 w _ ?side1 ?side2 A30.out).mono ?_); (case side1 => repeat (first | (with_reducible first | exact HI587.out | apply IsS93.alloc | apply IsS93.drewN | apply IsS93.drew | apply IsS93.set_1 | apply IsS93.set_2 | refine IsS93.far ?_ NB587_582.out _ | refine IsS93.far ?_ NB587_583.out _ | refine IsS93.far ?_ NB587_594.out _ | refine IsS93.far ?_ NB587_605.out _) | exact HI587.out)); (case side2 => repeat (first | (with_reducible first | exact HB.out | apply Zk | apply Zi | apply Zj | refine Zc ?_ (IsS93.ge HI587.out) | refine Zc ?_ GE582.out | refine Zc ?_ GE583.out | refine Zc ?_ GE594.out | refine Zc ?_ GE605.out) | exact HB.out)); rintro e w31 ⟨v611, rfl, ho0, hi, hb, hk⟩; refine ⟨_, rfl, ?_⟩; replace BK582 := Aside0.mk (ZR hk (g' := gb582) (o := .cells #[.int .i64 0, .slice none 0 0] 27 (0, 0)) (bk_ BK582.out) NB582_587.out (by simp)); replace BK583 := Aside0.mk (ZR hk (g' := gb583) (o := .cells #[.int .i64 0, .slice none 0 0] 27 (0, 0)) (bk_ BK583.out) NB583_587.out (by simp)); replace BK594 := Aside0.mk (ZR hk (g' := gb594) (o := .cells #[.int .i64 t588, .slice Ao17 t589.length co17] 27 (0, 0)) (bk_ BK594.out) NB594_587.out (by simp)); replace BK605 := Aside0.mk (ZR hk (g' := gb605) (o := .cells #[.int .i64 t600, .slice Ao26 t601.length co26] 27 (0, 0)) (bk_ BK605.out) NB605_587.out (by simp)); have HO612 := Aside0.mk (Kd.S_lower (Kd.S_new' ho0 (Kd.S_lt (rS_ HO591.out))) (Zm (by repeat (first | (with_reducible first | exact HB.out | apply Zk | apply Zi | apply Zj | refine Zc ?_ (IsS93.ge HI587.out) | refine Zc ?_ GE582.out | refine Zc ?_ GE583.out | refine Zc ?_ GE594.out | refine Zc ?_ GE605.out) | exact HB.out)))); replace HO591 := Aside0.mk (Zt (Kd.S_told (Kd.S_oldK (IsS93.apartS (show IsS93 w _ g587 t584 t607 t608 from by repeat (first | (with_reducible first | exact HI587.out | apply IsS93.alloc | apply IsS93.drewN | apply IsS93.drew | apply IsS93.set_1 | apply IsS93.set_2 | refine IsS93.far ?_ NB587_582.out _ | refine IsS93.far ?_ NB587_583.out _ | refine IsS93.far ?_ NB587_594.out _ | refine IsS93.far ?_ NB587_605.out _) | exact HI587.out)) (rS_ HO591.out) (by decide)) hk) (Kd.S_base ho0)) (fun _ h_ => h_.1)); replace HB := Aside0.mk (hb); replace HI587 := Aside0.mk (hi); (try clear hb); (try clear hk); (try clear hi); (try clear ho0); have hnb32 := NB605_582.out; have hnc32 := NB582_605.out; have hnb33 := NB605_583.out; have hnc33 := NB583_605.out; have hnb34 := NB605_594.out; have hnc34 := NB594_605.out; have hnb35 := NB605_587.out; have hnc35 := NB587_605.out; obtain ⟨hcz36_0, hcz36_1, hfz36_0, hfz36_1⟩ := c2_ BK605.out; obtain ⟨Ao37, co37, eo37⟩ := ZN HO612.out; subst eo37))
  go_meet
  case rel => exact ⟨_, (t609), (t610), (.slice Ao37 t610.length co37), H', ⟨by first | omega | exact Nat.le_refl _⟩, ⟨by (with_reducible repeat (first | apply Zs | apply Zr | apply Zp)); exact Zt (Zq (p := ⟨gb605, 1, none⟩) (Zq (p := ⟨gb605, 0, none⟩) (Zv HO591.out BK605.out (by decide)) (fun _ hk => hk.2) (.int .i64 t609)) (fun _ hk => hk.2) (.slice Ao37 t610.length co37)) (fun _ hk => hk.1.2)⟩, ⟨by (with_reducible repeat (first | apply Zs | apply Zr | apply Zp)); exact Zt (Zq (p := ⟨gb605, 1, none⟩) (Zq (p := ⟨gb605, 0, none⟩) (Zv HO612.out BK605.out (by decide)) (fun _ hk => hk.2) (.int .i64 t609)) (fun _ hk => hk.2) (.slice Ao37 t610.length co37)) (fun _ hk => hk.1.2)⟩, ⟨by (with_reducible repeat (first | refine Ze ?_ _ | refine Zf ?_ | refine Zd ?_ _)); refine ZG ?_ NB582_605.out _; (with_reducible repeat (first | refine Ze ?_ _ | refine Zf ?_ | refine Zd ?_ _)); refine ZG ?_ NB582_605.out _; (with_reducible repeat (first | refine Ze ?_ _ | refine Zf ?_ | refine Zd ?_ _)); exact BK582.out⟩, ⟨by (with_reducible repeat (first | refine Ze ?_ _ | refine Zf ?_ | refine Zd ?_ _)); refine ZG ?_ NB583_605.out _; (with_reducible repeat (first | refine Ze ?_ _ | refine Zf ?_ | refine Zd ?_ _)); refine ZG ?_ NB583_605.out _; (with_reducible repeat (first | refine Ze ?_ _ | refine Zf ?_ | refine Zd ?_ _)); exact BK583.out⟩, ⟨by (with_reducible repeat (first | refine Ze ?_ _ | refine Zf ?_ | refine Zd ?_ _)); refine ZG ?_ NB594_605.out _; (with_reducible repeat (first | refine Ze ?_ _ | refine Zf ?_ | refine Zd ?_ _)); refine ZG ?_ NB594_605.out _; (with_reducible repeat (first | refine Ze ?_ _ | refine Zf ?_ | refine Zd ?_ _)); exact BK594.out⟩, ⟨by (with_reducible repeat (first | refine Ze ?_ _ | refine Zf ?_ | refine Zd ?_ _)); refine ZB (cs := #[.int .i64 t609, .slice Ao26 t601.length co26]) ?_ 1 _ rfl; (with_reducible repeat (first | refine Ze ?_ _ | refine Zf ?_ | refine Zd ?_ _)); refine ZB (cs := #[.int .i64 t600, .slice Ao26 t601.length co26]) ?_ 0 _ rfl; (with_reducible repeat (first | refine Ze ?_ _ | refine Zf ?_ | refine Zd ?_ _)); exact BK605.out⟩, ⟨by repeat (first | (with_reducible first | exact HB.out | apply Zk | apply Zi | apply Zj | refine Zc ?_ (IsS93.ge HI587.out) | refine Zc ?_ GE582.out | refine Zc ?_ GE583.out | refine Zc ?_ GE594.out | refine Zc ?_ GE605.out) | exact HB.out)⟩⟩
 case rest =>
  clear HC7
  try clear c1
  try clear c2
  try clear p2
  try clear c3
  try clear c4
  try clear c9
  try clear c10
  try clear c29
  try clear c32
  try clear c33
  try clear c34
  try clear c35
  try clear hcz36_0
  try clear hcz36_1
  try clear hfz36_0
  try clear hfz36_1
  obtain ⟨kq, x606000_6, x606001_6, u606001, HA, HJ6, HO_595001, HO_606001, BK582, BK583, BK594, BK605, HB⟩ := hcut
  cases kq with
  | zero => exact absurd HA.out (by simp [spec_DrawIsPartOf.j0])
  | succ kj6 =>
   have H := HA.out
   clear HA
   simp only [spec_DrawIsPartOf.j0] at H
   simp only [Option.some.injEq, Prod.mk.injEq] at H
   obtain ⟨rfl, rfl, rfl, rfl⟩ := H
   try go_wp2
   replace HO_595001 := Aside0.mk (Zp HO_595001.out)
   replace HO_606001 := Aside0.mk (Zp HO_606001.out)
   replace BK582 := Aside0.mk (Zf BK582.out)
   replace BK583 := Aside0.mk (Zf BK583.out)
   replace BK594 := Aside0.mk (Zf BK594.out)
   replace BK605 := Aside0.mk (Zf BK605.out)
   replace HB := Aside0.mk (Zj HB.out)
   obtain ⟨Ao42, co42, eo42⟩ := ZN HO_606001.out
   (first | subst eo42 | (injection eo42 with f1_ f2_ f3_; have f4_ := f1_.symm; have f5_ := f3_.symm; clear f1_ f2_ f3_; subst f4_; subst f5_))
   refine start_ (n := 4) (S := fun w' => w'.cell? ⟨gb594, 0, none⟩ = some (.int .i64 t588) ∧ w'.cell? ⟨gb594, 1, none⟩ = some (.slice Ao17 t589.length co17) ∧ w'.cell? ⟨gb605, 0, none⟩ = some (.int .i64 x606000_6) ∧ w'.cell? ⟨gb605, 1, none⟩ = some (.slice Ao42 x606001_6.length co42)) (ds := []) (m_ 4 0) (by kernel_rfl) rfl rfl ⟨(Za BK594.out 0).trans rfl, (Za BK594.out 1).trans rfl, (Za BK605.out 0).trans rfl, (Za BK605.out 1).trans rfl⟩ (fun hHeld => ?_)
   generalize wc.drew = w38 at HO_595001 HO_606001 BK582 BK583 BK594 BK605 HB hHeld ⊢
   refine tk4_ 0 24 (m_ 4 1) hHeld ?_
   refine tk4_ 1 25 (m_ 4 3) hHeld ?_
   refine one_ (i := 2) (N := none) (m_ 4 7) rfl rfl (by kernel_rfl) (by decide) (fun K hK => ?_)
   have hs39 : w38.cell? ⟨gb582, 0, none⟩ = some (.int .i64 0) := (Za BK582.out 0).trans rfl
   have hfs39 := Zb BK582.out 0
   have hns39_1 := NB583_582.out
   have hns39_2 := NB594_582.out
   have hns39_3 := NB605_582.out
   have hms39_1 := NB582_583.out
   have hms39_2 := NB582_594.out
   have hms39_3 := NB582_605.out
   have hs40 : w38.cell? ⟨gb582, 1, none⟩ = some (.slice none 0 0) := (Za BK582.out 1).trans rfl
   have hfs40 := Zb BK582.out 1
   have hns40_1 := NB583_582.out
   have hns40_2 := NB594_582.out
   have hns40_3 := NB605_582.out
   have hms40_1 := NB582_583.out
   have hms40_2 := NB582_594.out
   have hms40_3 := NB582_605.out
   refine skip_ (w1 := ?_) (by rfl) rfl ?_ ?_
   rotate_left
   ·go_simp
    rfl
   refine hK.out _ _ ⟨((cell_far (p := ⟨gb582, _, none⟩) NB594_582.out _).trans (((cell_far (p := ⟨gb582, _, none⟩) NB594_582.out _).trans (hHeld.1)))), ((cell_far (p := ⟨gb582, _, none⟩) NB594_582.out _).trans (((cell_far (p := ⟨gb582, _, none⟩) NB594_582.out _).trans (hHeld.2.1)))), ((cell_far (p := ⟨gb582, _, none⟩) NB605_582.out _).trans (((cell_far (p := ⟨gb582, _, none⟩) NB605_582.out _).trans (hHeld.2.2.1)))), ((cell_far (p := ⟨gb582, _, none⟩) NB605_582.out _).trans (((cell_far (p := ⟨gb582, _, none⟩) NB605_582.out _).trans (hHeld.2.2.2))))⟩ (fun hHeld => ?_)
   clear hK K
   refine one_ (i := 3) (N := none) (m_ 4 15) rfl rfl (by kernel_rfl) (by decide) (fun K hK => ?_)
   have hs41 : w38.cell? ⟨gb583, 0, none⟩ = some (.int .i64 0) := (Za BK583.out 0).trans rfl
   have hfs41 := Zb BK583.out 0
   have hns41_0 := NB582_583.out
   have hns41_2 := NB594_583.out
   have hns41_3 := NB605_583.out
   have hms41_0 := NB583_582.out
   have hms41_2 := NB583_594.out
   have hms41_3 := NB583_605.out
   have hs43 : w38.cell? ⟨gb583, 1, none⟩ = some (.slice none 0 0) := (Za BK583.out 1).trans rfl
   have hfs43 := Zb BK583.out 1
   have hns43_0 := NB582_583.out
   have hns43_2 := NB594_583.out
   have hns43_3 := NB605_583.out
   have hms43_0 := NB583_582.out
   have hms43_2 := NB583_594.out
   have hms43_3 := NB583_605.out
   refine skip_ (w1 := ?_) (by rfl) rfl ?_ ?_
   rotate_left
   ·go_simp
    rfl
   refine hK.out _ _ ⟨((cell_far (p := ⟨gb583, _, none⟩) NB594_583.out _).trans (((cell_far (p := ⟨gb583, _, none⟩) NB594_583.out _).trans (hHeld.1)))), ((cell_far (p := ⟨gb583, _, none⟩) NB594_583.out _).trans (((cell_far (p := ⟨gb583, _, none⟩) NB594_583.out _).trans (hHeld.2.1)))), ((cell_far (p := ⟨gb583, _, none⟩) NB605_583.out _).trans (((cell_far (p := ⟨gb583, _, none⟩) NB605_583.out _).trans (hHeld.2.2.1)))), ((cell_far (p := ⟨gb583, _, none⟩) NB605_583.out _).trans (((cell_far (p := ⟨gb583, _, none⟩) NB605_583.out _).trans (hHeld.2.2.2))))⟩ (fun hHeld => ?_)
   clear hK K
   refine done_ (by kernel_rfl) ?_
   try go_wp2
   refine bodyPost_ret (results_cc rfl _ _ gb582 gb583 27 27 #[.int .i64 t588, .slice Ao17 t589.length co17] #[.int .i64 x606000_6, .slice Ao42 x606001_6.length co42] (0, 0) (0, 0) _ _ rfl (by (with_reducible repeat (first | refine Ze ?_ _ | refine Zf ?_ | refine Zd ?_ _)); refine ZG ?_ NB582_583.out _; (with_reducible repeat (first | refine Ze ?_ _ | refine Zf ?_ | refine Zd ?_ _)); refine ZG ?_ NB582_583.out _; (with_reducible repeat (first | refine Ze ?_ _ | refine Zf ?_ | refine Zd ?_ _)); refine ZB (cs := #[.int .i64 t588, .slice none 0 0]) ?_ 1 _ rfl; (with_reducible repeat (first | refine Ze ?_ _ | refine Zf ?_ | refine Zd ?_ _)); refine ZB (cs := #[.int .i64 0, .slice none 0 0]) ?_ 0 _ rfl; (with_reducible repeat (first | refine Ze ?_ _ | refine Zf ?_ | refine Zd ?_ _)); exact BK582.out) Try.underlying27 rfl (by kernel_rfl) rfl (by (with_reducible repeat (first | refine Ze ?_ _ | refine Zf ?_ | refine Zd ?_ _)); refine ZB (cs := #[.int .i64 x606000_6, .slice none 0 0]) ?_ 1 _ rfl; (with_reducible repeat (first | refine Ze ?_ _ | refine Zf ?_ | refine Zd ?_ _)); refine ZB (cs := #[.int .i64 0, .slice none 0 0]) ?_ 0 _ rfl; (with_reducible repeat (first | refine Ze ?_ _ | refine Zf ?_ | refine Zd ?_ _)); refine ZG ?_ NB583_582.out _; (with_reducible repeat (first | refine Ze ?_ _ | refine Zf ?_ | refine Zd ?_ _)); refine ZG ?_ NB583_582.out _; (with_reducible repeat (first | refine Ze ?_ _ | refine Zf ?_ | refine Zd ?_ _)); exact BK583.out) Try.underlying27 rfl (by kernel_rfl)) rfl ?_
   exact ⟨_, _, er_, by (with_reducible repeat (first | apply Zs | apply Zr | apply Zp)); exact Zt (Zq (p := ⟨gb583, 1, none⟩) (Zq (p := ⟨gb583, 0, none⟩) (Zq (p := ⟨gb582, 1, none⟩) (Zq (p := ⟨gb582, 0, none⟩) (Zv (Zv HO_595001.out BK582.out (by decide)) BK583.out (by decide)) (fun _ hk => hk.1.2) (.int .i64 t588)) (fun _ hk => hk.1.2) (.slice Ao17 t589.length co17)) (fun _ hk => hk.2) (.int .i64 x606000_6)) (fun _ hk => hk.2) (.slice Ao42 x606001_6.length co42)) (fun _ hk => hk.1.1), by (with_reducible repeat (first | apply Zs | apply Zr | apply Zp)); exact Zt (Zq (p := ⟨gb583, 1, none⟩) (Zq (p := ⟨gb583, 0, none⟩) (Zq (p := ⟨gb582, 1, none⟩) (Zq (p := ⟨gb582, 0, none⟩) (Zv (Zv HO_606001.out BK582.out (by decide)) BK583.out (by decide)) (fun _ hk => hk.1.2) (.int .i64 t588)) (fun _ hk => hk.1.2) (.slice Ao17 t589.length co17)) (fun _ hk => hk.2) (.int .i64 x606000_6)) (fun _ hk => hk.2) (.slice Ao42 x606001_6.length co42)) (fun _ hk => hk.1.1), hB_⟩

end Go.Proofs.Ytdlobolnajcfnaa.PFnDisputes
