-- Written by a program of this session (hooks of mine on the print): Lean checks it.
import Derived.Test.YtdlobolnajcfnaaPFnDisputesx0
import Derived.Test.YtdlobolnajcfnaaPFnDisputesx2
import Derived.Test.YtdlobolnajcfnaaPFnDisputesx3
import Derived.Test.YtdlobolnajcfnaaPFnDisputesx5
import Derived.Test.YtdlobolnajcfnaaPFnDisputesx6
import Derived.Test.YtdlobolnajcfnaaPFnDisputesx10
namespace Go.Proofs.Ytdlobolnajcfnaa.PFnDisputes
open Go.RowKit Go.Proofs.YtdlobolnajcfnaaW.PrintWords Go.Proofs.YtdlobolnajcfnaaW.PrintLast Go.Proofs.YtdlobolnajcfnaaW.PrintMore
attribute [local go_sem] max2_int min2_int max_two min_two max_three min_three max_four min_four   -- for this text's walks alone
set_option linter.unusedVariables false
set_option linter.unusedSimpArgs false
set_option maxHeartbeats 8000000
set_option maxRecDepth 100000

/-! ### spec_DrawIsSet: function 89 -/
def spec_DrawIsSet.j0 : Nat → List Int → Int → List (List Int) → Option (Int × (List (List Int)) × List Int)
 | 0, _, _, _ => none
 | k + 1, x5, x390000, x390001 => some (x390000, x390001, x5)
def spec_DrawIsSet.f (k : Nat) (l0 : List Int) : Option (Int × (List (List Int)) × List Int) := (spec_DrawHitBy.f k l0).bind fun bt382 => ((spec_l1New.f k l0).bind fun bt390 => ((spec_l1Once.f bt390.1 bt390.2.1 bt390.2.2 8).bind fun bt394 => (if bt394.1 = true then ((spec_l1Below.f bt390.1 bt394.2.1 bt394.2.2 8).bind fun bt397 => (if bt382.2.2.length < 17592186044416 then (spec_DrawIsSet.j0 k (bt382.2.2 ++ [bt397.1]) bt382.1 bt382.2.1) else (none))) else (spec_DrawIsSet.j0 k bt382.2.2 bt382.1 bt382.2.1))))
theorem spec_DrawIsSet.mono_l : ∀ k, (∀ y0 y1 y2, LeO (spec_DrawIsSet.j0 k y0 y1 y2) (spec_DrawIsSet.j0 (k + 1) y0 y1 y2))
 | 0 => fun _ _ _ r h => by simp [spec_DrawIsSet.j0] at h
 | k + 1 => by
  have ih0 := spec_DrawIsSet.mono_l k
  ·intro y0 y1 y2
   unfold spec_DrawIsSet.j0
   repeat' with_reducible first | apply ih0 | apply spec_DrawHitBy.mono | apply spec_l1New.mono | apply ZJ | apply Zn | refine Zu ?_ ?_ | refine Zo ?_ (fun _ => ?_)
theorem spec_DrawIsSet.mono : ∀ a0 k, LeO (spec_DrawIsSet.f k a0) (spec_DrawIsSet.f (k + 1) a0) := by
 intro a0 k
 have ih0 := spec_DrawIsSet.mono_l k
 unfold spec_DrawIsSet.f
 repeat' with_reducible first | apply ih0 | apply spec_DrawHitBy.mono | apply spec_l1New.mono | apply ZJ | apply Zn | refine Zu ?_ ?_ | refine Zo ?_ (fun _ => ?_)
theorem spec_DrawIsSet.calls (k : Nat) (A0 : Option Addr) (c0 : Nat) (l0 : List Int) (r1 : Int) (r2 : List (List Int)) (r3 : List Int) (w : World) (hr0 : Kd.C (Kd.int .u8) w A0 l0.length l0) (hc0 : l0.length ≤ c0) (h : spec_DrawIsSet.f k l0 = some (r1, r2, r3)) :
  Calls Try.prog 89 #[.slice A0 l0.length c0] w fun e w' => ∃ v1_ v2_ : Value, e = .returned (.tuple #[.agg #[.int .i64 r1, v1_], v2_]) ∧ Kd.S (Kd.slice 3 (Kd.int .i64)) 31 w' w.heap.size (fun k_ => some k_ ≠ (v2_ : Value).ownBlock) v1_ r2 ∧ Kd.R (Kd.int .i64) 3 w' w.heap.size (fun _ => True) v2_ r3 ∧ Below w.heap.size w w' := by
 have hu27 := Try.underlying27
 have HR0 := Aside0.mk hr0
 have HC0 := Aside0.mk hc0
 clear hr0 hc0
 have HB := Aside0.mk (Below.refl w.heap.size w)
 have H := h
 unfold spec_DrawIsSet.f at H
 clear h
 obtain ⟨⟨t382, t383, t386⟩, A2, H⟩ := bd_ H
 try dsimp only at H
 obtain ⟨⟨t390, t391, t392⟩, A3, H⟩ := bd_ H
 try dsimp only at H
 obtain ⟨⟨t394, t395, t396⟩, A4, H⟩ := bd_ H
 try dsimp only at H
 have HC5 := Aside0.mk H
 clear H
 go_enter Try.func89, Try.ntmps89
 go_upto_if 15 with (first | ((with_reducible refine ZA (N := 2) rfl ?_); refine ZC ?hg (N := 2) ?hd (cs := #[.int .i64 0, .slice none 0 0]) (t := 27) ?hr ?_; (case hd => rfl); (case hg => rfl); (case hr => first | (go_simp; done) | (go_simp; rfl)); intro gb381 hg w6 hbox hb; have BK381 := Aside0.mk (hbox); have GW381 := Aside0.mk ((hz_ hg : w.heap.size ≤ gb381)); have GE381 := Aside0.mk ((hz_ hg : w.heap.size ≤ gb381)); replace HB := Aside0.mk (Zh hB_ hb); clear hb hbox hg) | ((with_reducible refine Zl (f := 119) rfl ?_); refine ZI (some 9) rfl rfl Try.func119 (by kernel_rfl) rfl #[.slice A0 l0.length c0] rfl ar_ ?_; (with_reducible refine (spec_DrawHitBy.calls k _ _ l0 t382 t383 t386 _ ?side1 ?side2 A2.out).mono ?_); (case side1 => exact cb_ HR0.out); (case side2 => exact HC0.out); rintro e w7 ⟨v384, v387, rfl, ho0, ho1, hb⟩; refine ⟨_, rfl, ?_⟩; have HO385 := Aside0.mk (Kd.S_lower ho0 (Zm hB_)); have HO388 := Aside0.mk (Kd.R_lower ho1 (Zm hB_)); replace BK381 := Aside0.mk (Zg (bq_ BK381.out) hb); replace HB := Aside0.mk (Zh hB_ hb); (try clear hb); (try clear hb2); (try clear hk); (try clear hi); (try clear ho0); (try clear ho1)) | ((with_reducible refine ZA (N := 4) rfl ?_); refine ZC ?hg (N := 4) ?hd (cs := #[.int .i64 0, .slice none 0 0]) (t := 27) ?hr ?_; (case hd => rfl); (case hg => rfl); (case hr => first | (go_simp; done) | (go_simp; rfl)); intro gb389 hg w8 hbox hb; replace HO385 := Aside0.mk (Zz (rS_ HO385.out) hb); replace HO388 := Aside0.mk (Kd.R_below (rR_ HO388.out) hb); have BK389 := Aside0.mk (hbox); have GW389 := Aside0.mk ((hz_ hg : w.heap.size ≤ gb389)); have GE389 := Aside0.mk ((hz_ hg : w.heap.size ≤ gb389)); replace HB := Aside0.mk (Zh hB_ hb); have NB381_389 := Aside0.mk ((by rw [hg]; exact Nat.ne_of_lt (ZS (bq_ BK381.out)) : gb381 ≠ gb389)); have NB389_381 := Aside0.mk ((by rw [hg]; exact Nat.ne_of_gt (ZS (bq_ BK381.out)) : gb389 ≠ gb381)); replace BK381 := Aside0.mk (Zg (bq_ BK381.out) hb); clear hb hbox hg; have hnb9 := NB389_381.out; have hnc9 := NB381_389.out; obtain ⟨hcz10_0, hcz10_1, hfz10_0, hfz10_1⟩ := c2_ BK389.out; obtain ⟨Ao11, co11, eo11⟩ := ZN HO385.out; subst eo11) | ((with_reducible refine Zl (f := 82) rfl ?_); refine ZI (some 13) rfl rfl Try.func82 (by kernel_rfl) rfl #[.slice A0 l0.length c0] rfl ar_ ?_; (with_reducible refine (spec_l1New.calls k _ _ l0 t390 t391 t392 w _ ?side1 ?side2 ?side3 A3.out).mono ?_); (case side1 => repeat (first | (with_reducible first | exact HB.out | apply Zk | apply Zi | apply Zj | refine Zc ?_ GE381.out | refine Zc ?_ GE389.out) | exact HB.out)); (case side2 => exact HR0.out); (case side3 => exact HC0.out); rintro e w12 ⟨g393, rfl, hi, hb, hb2⟩; refine ⟨_, rfl, ?_⟩; replace HO385 := Aside0.mk (Zz (by (with_reducible repeat (first | apply Zs | apply Zr | apply Zp)); exact (Zt (Zq (p := ⟨gb389, 1, none⟩) (Zq (p := ⟨gb389, 0, none⟩) (Zv HO385.out BK389.out (by decide)) (fun _ hk => hk.2) (.int .i64 t382)) (fun _ hk => hk.2) (.slice Ao11 t383.length co11)) (fun _ h_ => h_.1))) hb2); replace HO388 := Aside0.mk (Kd.R_below (by (with_reducible repeat (first | apply ZP | apply ZO | apply ZU)); exact (Zw (Kd.R_far (p := ⟨gb389, 1, none⟩) (Kd.R_far (p := ⟨gb389, 0, none⟩) (Kd.R_types HO388.out BK389.out (by decide)) (fun _ hk => hk.2) (.int .i64 t382)) (fun _ hk => hk.2) (.slice Ao11 t383.length co11)) (fun _ h_ => h_.1))) hb2); replace HB := Aside0.mk (hb); have HI393 := Aside0.mk (hi); have NB393_381 := Aside0.mk (IsS93.ne_blk hi (Zg (g := gb381) (o := .cells #[.int .i64 0, .slice none 0 0] 27 (0, 0)) (by (with_reducible repeat (first | refine Ze ?_ _ | refine Zf ?_ | refine Zd ?_ _)); refine ZG ?_ NB381_389.out _; (with_reducible repeat (first | refine Ze ?_ _ | refine Zf ?_ | refine Zd ?_ _)); refine ZG ?_ NB381_389.out _; (with_reducible repeat (first | refine Ze ?_ _ | refine Zf ?_ | refine Zd ?_ _)); exact BK381.out) hb2) (by decide)); have NB381_393 := Aside0.mk (Ne.symm (IsS93.ne_blk hi (Zg (g := gb381) (o := .cells #[.int .i64 0, .slice none 0 0] 27 (0, 0)) (by (with_reducible repeat (first | refine Ze ?_ _ | refine Zf ?_ | refine Zd ?_ _)); refine ZG ?_ NB381_389.out _; (with_reducible repeat (first | refine Ze ?_ _ | refine Zf ?_ | refine Zd ?_ _)); refine ZG ?_ NB381_389.out _; (with_reducible repeat (first | refine Ze ?_ _ | refine Zf ?_ | refine Zd ?_ _)); exact BK381.out) hb2) (by decide))); replace BK381 := Aside0.mk (Zg (g := gb381) (o := .cells #[.int .i64 0, .slice none 0 0] 27 (0, 0)) (by (with_reducible repeat (first | refine Ze ?_ _ | refine Zf ?_ | refine Zd ?_ _)); refine ZG ?_ NB381_389.out _; (with_reducible repeat (first | refine Ze ?_ _ | refine Zf ?_ | refine Zd ?_ _)); refine ZG ?_ NB381_389.out _; (with_reducible repeat (first | refine Ze ?_ _ | refine Zf ?_ | refine Zd ?_ _)); exact BK381.out) hb2); have NB393_389 := Aside0.mk (IsS93.ne_blk hi (Zg (g := gb389) (o := .cells #[.int .i64 t382, .slice Ao11 t383.length co11] 27 (0, 0)) (by (with_reducible repeat (first | refine Ze ?_ _ | refine Zf ?_ | refine Zd ?_ _)); refine ZB (cs := #[.int .i64 t382, .slice none 0 0]) ?_ 1 _ rfl; (with_reducible repeat (first | refine Ze ?_ _ | refine Zf ?_ | refine Zd ?_ _)); refine ZB (cs := #[.int .i64 0, .slice none 0 0]) ?_ 0 _ rfl; (with_reducible repeat (first | refine Ze ?_ _ | refine Zf ?_ | refine Zd ?_ _)); exact BK389.out) hb2) (by decide)); have NB389_393 := Aside0.mk (Ne.symm (IsS93.ne_blk hi (Zg (g := gb389) (o := .cells #[.int .i64 t382, .slice Ao11 t383.length co11] 27 (0, 0)) (by (with_reducible repeat (first | refine Ze ?_ _ | refine Zf ?_ | refine Zd ?_ _)); refine ZB (cs := #[.int .i64 t382, .slice none 0 0]) ?_ 1 _ rfl; (with_reducible repeat (first | refine Ze ?_ _ | refine Zf ?_ | refine Zd ?_ _)); refine ZB (cs := #[.int .i64 0, .slice none 0 0]) ?_ 0 _ rfl; (with_reducible repeat (first | refine Ze ?_ _ | refine Zf ?_ | refine Zd ?_ _)); exact BK389.out) hb2) (by decide))); replace BK389 := Aside0.mk (Zg (g := gb389) (o := .cells #[.int .i64 t382, .slice Ao11 t383.length co11] 27 (0, 0)) (by (with_reducible repeat (first | refine Ze ?_ _ | refine Zf ?_ | refine Zd ?_ _)); refine ZB (cs := #[.int .i64 t382, .slice none 0 0]) ?_ 1 _ rfl; (with_reducible repeat (first | refine Ze ?_ _ | refine Zf ?_ | refine Zd ?_ _)); refine ZB (cs := #[.int .i64 0, .slice none 0 0]) ?_ 0 _ rfl; (with_reducible repeat (first | refine Ze ?_ _ | refine Zf ?_ | refine Zd ?_ _)); exact BK389.out) hb2); (try clear hb); (try clear hb2); (try clear hk); (try clear hi)) | ((with_reducible refine Zl (f := 97) rfl ?_); refine ZI (some 15) rfl rfl Try.func97 (by kernel_rfl) rfl #[.pointer (some ⟨g393, 0, none⟩), .int .i64 8] rfl ar_ ?_; (with_reducible refine (spec_l1Once.calls g393 t390 t391 t392 8 t394 t395 t396 w _ ?side1 ?side2 A4.out).mono ?_); (case side1 => repeat (first | (with_reducible first | exact HI393.out | apply IsS93.alloc | apply IsS93.drewN | apply IsS93.drew | apply IsS93.set_1 | apply IsS93.set_2 | refine IsS93.far ?_ NB393_381.out _ | refine IsS93.far ?_ NB393_389.out _) | exact HI393.out)); (case side2 => repeat (first | (with_reducible first | exact HB.out | apply Zk | apply Zi | apply Zj | refine Zc ?_ (IsS93.ge HI393.out) | refine Zc ?_ GE381.out | refine Zc ?_ GE389.out) | exact HB.out)); rintro e w13 ⟨rfl, hi, hb, hk⟩; refine ⟨_, rfl, ?_⟩; replace BK381 := Aside0.mk (ZR hk (g' := gb381) (o := .cells #[.int .i64 0, .slice none 0 0] 27 (0, 0)) (bk_ BK381.out) NB381_393.out (by simp)); replace HO385 := Aside0.mk (Zt (Kd.S_keep (IsS93.apartS (show IsS93 w _ g393 t390 t391 t392 from by repeat (first | (with_reducible first | exact HI393.out | apply IsS93.alloc | apply IsS93.drewN | apply IsS93.drew | apply IsS93.set_1 | apply IsS93.set_2 | refine IsS93.far ?_ NB393_381.out _ | refine IsS93.far ?_ NB393_389.out _) | exact HI393.out)) (rS_ HO385.out) (by decide)) hk (fun _ h => h.2)) (fun _ h => h.1)); replace HO388 := Aside0.mk (Zw (Kd.R_keep (IsS93.apart (show IsS93 w _ g393 t390 t391 t392 from by repeat (first | (with_reducible first | exact HI393.out | apply IsS93.alloc | apply IsS93.drewN | apply IsS93.drew | apply IsS93.set_1 | apply IsS93.set_2 | refine IsS93.far ?_ NB393_381.out _ | refine IsS93.far ?_ NB393_389.out _) | exact HI393.out)) (rR_ HO388.out) (by decide)) hk (fun _ h => h.2)) (fun _ h => h.1)); replace BK389 := Aside0.mk (ZR hk (g' := gb389) (o := .cells #[.int .i64 t382, .slice Ao11 t383.length co11] 27 (0, 0)) (bk_ BK389.out) NB389_393.out (by simp)); replace HB := Aside0.mk (hb); replace HI393 := Aside0.mk (hi); (try clear hb); (try clear hb2); (try clear hk); (try clear hi)))
 (try simp only [Act.put, ZW, List.set_cons_zero, List.set_cons_succ])
 go_cut [5] (fun v5 wc => ∃ (kq : Nat) (x5_4 : List Int), Aside0 (spec_DrawIsSet.j0 kq x5_4 t382 t383 = some (r1, r2, r3)) ∧ Aside0 (kq ≤ k) ∧ Aside0 (Kd.R (Kd.int .i64) 3 wc w.heap.size (fun _ => True) v5 x5_4) ∧ Aside0 (Kd.S (Kd.slice 3 (Kd.int .i64)) 31 wc w.heap.size (fun k_ => some k_ ≠ (v5 : Value).ownBlock) (.slice Ao11 t383.length co11) t383) ∧ Aside0 (wc.heap[gb381]? = some (.cells #[.int .i64 0, (.slice none 0 0)] 27 (0, 0))) ∧ Aside0 (wc.heap[gb389]? = some (.cells #[.int .i64 t382, (.slice Ao11 t383.length co11)] 27 (0, 0))) ∧ Aside0 (Below w.heap.size w wc))
 case first =>
  have H := HC5.out
  clear HC5
  by_cases c14 : t394 = true
  rotate_left
  ·replace c14 := Bool.eq_false_iff.mpr c14
   subst c14
   have H1 : (spec_DrawIsSet.j0 k t386 t382 t383) = some (r1, r2, r3) := by rw [if_neg (show ¬ (false = true) by decide)] at H; exact H
   clear H
   have H := H1
   clear H1
   have H' := Aside0.mk H
   clear H
   go_wp2
   go_meet
   case rel => exact ⟨_, (t386), H', ⟨by first | omega | exact Nat.le_refl _⟩, ⟨rR_ HO388.out⟩, ⟨rS_ HO385.out⟩, ⟨bk_ BK381.out⟩, ⟨bk_ BK389.out⟩, ⟨by repeat (first | (with_reducible first | exact HB.out | apply Zk | apply Zi | apply Zj | refine Zc ?_ (IsS93.ge HI393.out) | refine Zc ?_ GE381.out | refine Zc ?_ GE389.out) | exact HB.out)⟩⟩
  subst c14
  have H1 : ((spec_l1Below.f t390 t395 t396 8).bind fun bt397 => (if t386.length < 17592186044416 then (spec_DrawIsSet.j0 k (t386 ++ [bt397.1]) t382 t383) else (none))) = some (r1, r2, r3) := by rw [if_pos rfl] at H; exact H
  clear H
  have H := H1
  clear H1
  obtain ⟨⟨t397, t398, t399⟩, A15, H⟩ := bd_ H
  try dsimp only at H
  by_cases c16 : t386.length < 17592186044416
  rotate_left
  ·rw [if_neg c16] at H
   exact absurd H (by simp)
  rw [if_pos c16] at H
  have LMc16 := Aside0.mk c16
  clear c16
  obtain ⟨y400, hy400⟩ : ∃ y_ : List Int, y_ = (t386 ++ [t397]) := ⟨_, rfl⟩
  replace H : (spec_DrawIsSet.j0 k y400 t382 t383) = some (r1, r2, r3) := hy_ hy400 H
  have Ny400 := Aside0.mk hy400
  clear hy400
  have H' := Aside0.mk H
  clear H
  go_wp2_with (first | ((with_reducible refine Zl (f := 84) rfl ?_); refine ZI (some 18) rfl rfl Try.func84 (by kernel_rfl) rfl #[.pointer (some ⟨g393, 0, none⟩), .int .i64 8] rfl ar_ ?_; (with_reducible refine (spec_l1Below.calls g393 t390 t395 t396 8 t397 t398 t399 w _ ?side1 ?side2 A15.out).mono ?_); (case side1 => repeat (first | (with_reducible first | exact HI393.out | apply IsS93.alloc | apply IsS93.drewN | apply IsS93.drew | apply IsS93.set_1 | apply IsS93.set_2 | refine IsS93.far ?_ NB393_381.out _ | refine IsS93.far ?_ NB393_389.out _) | exact HI393.out)); (case side2 => repeat (first | (with_reducible first | exact HB.out | apply Zk | apply Zi | apply Zj | refine Zc ?_ (IsS93.ge HI393.out) | refine Zc ?_ GE381.out | refine Zc ?_ GE389.out) | exact HB.out)); rintro e w17 ⟨rfl, hi, hb, hk⟩; refine ⟨_, rfl, ?_⟩; replace BK381 := Aside0.mk (ZR hk (g' := gb381) (o := .cells #[.int .i64 0, .slice none 0 0] 27 (0, 0)) (bk_ BK381.out) NB381_393.out (by simp)); replace HO385 := Aside0.mk (Zt (Kd.S_keep (IsS93.apartS (show IsS93 w _ g393 t390 t395 t396 from by repeat (first | (with_reducible first | exact HI393.out | apply IsS93.alloc | apply IsS93.drewN | apply IsS93.drew | apply IsS93.set_1 | apply IsS93.set_2 | refine IsS93.far ?_ NB393_381.out _ | refine IsS93.far ?_ NB393_389.out _) | exact HI393.out)) (rS_ HO385.out) (by decide)) hk (fun _ h => h.2)) (fun _ h => h.1)); replace HO388 := Aside0.mk (Zw (Kd.R_keep (IsS93.apart (show IsS93 w _ g393 t390 t395 t396 from by repeat (first | (with_reducible first | exact HI393.out | apply IsS93.alloc | apply IsS93.drewN | apply IsS93.drew | apply IsS93.set_1 | apply IsS93.set_2 | refine IsS93.far ?_ NB393_381.out _ | refine IsS93.far ?_ NB393_389.out _) | exact HI393.out)) (rR_ HO388.out) (by decide)) hk (fun _ h => h.2)) (fun _ h => h.1)); replace BK389 := Aside0.mk (ZR hk (g' := gb389) (o := .cells #[.int .i64 t382, .slice Ao11 t383.length co11] 27 (0, 0)) (bk_ BK389.out) NB389_393.out (by simp)); replace HB := Aside0.mk (hb); replace HI393 := Aside0.mk (hi); (try clear hb); (try clear hk); (try clear hi)) | ((with_reducible refine gate_builtin (b := .append) (xs := #[.tmp 16, .tmp 19]) rfl ?_); at_builtin; refine Kd.R_append (Kd.int .i64) (w0 := w) w.heap.size rfl (.tmp 16) (.tmp 19) 31 3 (.int .i64 0) 8 rfl Try.underlying31 info3 rfl (by decide) (by omega) v387 t386 t397 [.int .i64 t397] (fun _ => True) (fun _ => False) rfl rfl ?aP (fun _ hk => hk.elim) ?aF ?aO ?aB ?aS ?aL ?_; (case aP => exact rfl); (case aB => exact (by repeat (first | (with_reducible first | exact HB.out | apply Zk | apply Zi | apply Zj | refine Zc ?_ (IsS93.ge HI393.out) | refine Zc ?_ GE381.out | refine Zc ?_ GE389.out) | exact HB.out))); (case aF => exact (fun _ _ => trivial)); (case aO => exact (rR_ HO388.out)); (case aS => exact (Zm (by repeat (first | (with_reducible first | exact HB.out | apply Zk | apply Zi | apply Zj | refine Zc ?_ (IsS93.ge HI393.out) | refine Zc ?_ GE381.out | refine Zc ?_ GE389.out) | exact HB.out)))); (case aL => have := LMc16.out; omega); intro v401 w18 ho hb hg hat; rw [← Ny400.out] at ho; have n0_ := Aside0.mk (ZT (bq_ BK381.out) hg (Kd.R_ne HO388.out BK381.out (by decide))); have n1_ := Aside0.mk (Kd.S_after (ok := (fun _ => True)) (by (with_reducible repeat (first | apply Zs | apply Zr | apply Zp)); exact Zt HO385.out (fun _ hk => ⟨trivial, hk⟩)) hg hat); have n2_ := Aside0.mk (ZT (bq_ BK389.out) hg (Kd.R_ne HO388.out BK389.out (by decide))); have n3_ := Aside0.mk (IsS93.grown (by repeat (first | (with_reducible first | exact HI393.out | apply IsS93.alloc | apply IsS93.drewN | apply IsS93.drew | apply IsS93.set_1 | apply IsS93.set_2 | refine IsS93.far ?_ NB393_381.out _ | refine IsS93.far ?_ NB393_389.out _) | exact HI393.out)) hg (IsS93.own_ne HI393.out HO388.out (by decide))); have n4_ := Aside0.mk (hb); have n5_ := Aside0.mk (ho); clear BK381; clear HO385; clear BK389; clear HI393; clear HB; clear HO388; have BK381 := n0_; have HO385 := n1_; have BK389 := n2_; have HI393 := n3_; have HB := n4_; have HO402 := n5_; clear n0_ n1_ n2_ n3_ n4_ n5_; clear ho hb hg hat))
  go_meet
  case rel => exact ⟨_, (y400), H', ⟨by first | omega | exact Nat.le_refl _⟩, ⟨rR_ HO402.out⟩, ⟨by (with_reducible repeat (first | apply Zs | apply Zr | apply Zp)); exact Zt HO385.out (fun _ hk => hk.2)⟩, ⟨bk_ BK381.out⟩, ⟨bk_ BK389.out⟩, ⟨by repeat (first | (with_reducible first | exact HB.out | apply Zk | apply Zi | apply Zj | refine Zc ?_ (IsS93.ge HI393.out) | refine Zc ?_ GE381.out | refine Zc ?_ GE389.out) | exact HB.out)⟩⟩
 case rest =>
  clear HC5
  try clear c1
  try clear p2
  try clear c8
  try clear c9
  try clear c11
  try clear c14
  try clear c16
  try clear hcz10_0
  try clear hcz10_1
  try clear hfz10_0
  try clear hfz10_1
  obtain ⟨kq, x5_4, HA, HJ4, HO_5, HO_390001, BK381, BK389, HB⟩ := hcut
  cases kq with
  | zero => exact absurd HA.out (by simp [spec_DrawIsSet.j0])
  | succ kj4 =>
   have H := HA.out
   clear HA
   simp only [spec_DrawIsSet.j0] at H
   simp only [Option.some.injEq, Prod.mk.injEq] at H
   obtain ⟨rfl, rfl, rfl⟩ := H
   have hnb19 := NB389_381.out
   have hnc19 := NB381_389.out
   obtain ⟨hcz20_0, hcz20_1, hfz20_0, hfz20_1⟩ := c2_ BK389.out
   obtain ⟨hcz21_0, hcz21_1, hfz21_0, hfz21_1⟩ := c2_ BK381.out
   go_wp2
   refine bodyPost_ret (results_ct rfl _ _ gb381 27 #[.int .i64 t382, .slice Ao11 t383.length co11] (0, 0) _ rfl (by (with_reducible repeat (first | refine Ze ?_ _ | refine Zf ?_ | refine Zd ?_ _)); refine ZB (cs := #[.int .i64 t382, .slice none 0 0]) ?_ 1 _ rfl; (with_reducible repeat (first | refine Ze ?_ _ | refine Zf ?_ | refine Zd ?_ _)); refine ZB (cs := #[.int .i64 0, .slice none 0 0]) ?_ 0 _ rfl; (with_reducible repeat (first | refine Ze ?_ _ | refine Zf ?_ | refine Zd ?_ _)); exact BK381.out) Try.underlying27 rfl (by kernel_rfl)) rfl ?_
   exact ⟨_, _, er_, by (with_reducible repeat (first | apply Zs | apply Zr | apply Zp)); exact Zt (Zq (p := ⟨gb381, 1, none⟩) (Zq (p := ⟨gb381, 0, none⟩) (Zv HO_390001.out BK381.out (by decide)) (fun _ hk => hk.2) (.int .i64 t382)) (fun _ hk => hk.2) (.slice Ao11 t383.length co11)) (fun _ hk => hk.1), by (with_reducible repeat (first | apply ZP | apply ZO | apply ZU)); exact Zw (Kd.R_far (p := ⟨gb381, 1, none⟩) (Kd.R_far (p := ⟨gb381, 0, none⟩) (Kd.R_types HO_5.out BK381.out (by decide)) (fun _ hk => hk.2) (.int .i64 t382)) (fun _ hk => hk.2) (.slice Ao11 t383.length co11)) (fun _ hk => trivial), hB_⟩

/-! ### spec_DrawWithClaim: function 41 -/
def spec_DrawWithClaim.f (k : Nat) (l0 : List Int) : Option (Int × (List (List Int)) × List Int) := (spec_DrawIsSet.f k l0).bind fun bt404 => (some (bt404.1, bt404.2.1, bt404.2.2))
theorem spec_DrawWithClaim.mono : ∀ a0 k, LeO (spec_DrawWithClaim.f k a0) (spec_DrawWithClaim.f (k + 1) a0) := by
 intro a0 k
 unfold spec_DrawWithClaim.f
 repeat' with_reducible first | apply spec_DrawIsSet.mono | apply ZJ | apply Zn | refine Zu ?_ ?_ | refine Zo ?_ (fun _ => ?_)
theorem spec_DrawWithClaim.calls (k : Nat) (A0 : Option Addr) (c0 : Nat) (l0 : List Int) (r1 : Int) (r2 : List (List Int)) (r3 : List Int) (w : World) (hr0 : Kd.C (Kd.int .u8) w A0 l0.length l0) (hc0 : l0.length ≤ c0) (h : spec_DrawWithClaim.f k l0 = some (r1, r2, r3)) :
  Calls Try.prog 41 #[.slice A0 l0.length c0] w fun e w' => ∃ v1_ v2_ : Value, e = .returned (.tuple #[.agg #[.int .i64 r1, v1_], v2_]) ∧ Kd.S (Kd.slice 3 (Kd.int .i64)) 31 w' w.heap.size (fun k_ => some k_ ≠ (v2_ : Value).ownBlock) v1_ r2 ∧ Kd.R (Kd.int .i64) 3 w' w.heap.size (fun _ => True) v2_ r3 ∧ Below w.heap.size w w' := by
 have hu27 := Try.underlying27
 have HR0 := Aside0.mk hr0
 have HC0 := Aside0.mk hc0
 clear hr0 hc0
 have HB := Aside0.mk (Below.refl w.heap.size w)
 have H := h
 unfold spec_DrawWithClaim.f at H
 clear h
 obtain ⟨⟨t404, t405, t408⟩, A2, H⟩ := bd_ H
 try dsimp only at H
 simp only [Option.some.injEq, Prod.mk.injEq] at H
 obtain ⟨rfl, rfl, rfl⟩ := H
 go_enter Try.func41, Try.ntmps41
 go_wp2_with (first | ((with_reducible refine ZA (N := 2) rfl ?_); refine ZC ?hg (N := 2) ?hd (cs := #[.int .i64 0, .slice none 0 0]) (t := 27) ?hr ?_; (case hd => rfl); (case hg => rfl); (case hr => first | (go_simp; done) | (go_simp; rfl)); intro gb403 hg w3 hbox hb; have BK403 := Aside0.mk (hbox); have GW403 := Aside0.mk ((hz_ hg : w.heap.size ≤ gb403)); have GE403 := Aside0.mk ((hz_ hg : w.heap.size ≤ gb403)); replace HB := Aside0.mk (Zh hB_ hb); clear hb hbox hg) | ((with_reducible refine Zl (f := 89) rfl ?_); refine ZI (some 5) rfl rfl Try.func89 (by kernel_rfl) rfl #[.slice A0 l0.length c0] rfl ar_ ?_; (with_reducible refine (spec_DrawIsSet.calls k _ _ l0 t404 t405 t408 _ ?side1 ?side2 A2.out).mono ?_); (case side1 => exact cb_ HR0.out); (case side2 => exact HC0.out); rintro e w4 ⟨v406, v409, rfl, ho0, ho1, hb⟩; refine ⟨_, rfl, ?_⟩; have HO407 := Aside0.mk (Kd.S_lower ho0 (Zm hB_)); have HO410 := Aside0.mk (Kd.R_lower ho1 (Zm hB_)); replace BK403 := Aside0.mk (Zg (bq_ BK403.out) hb); replace HB := Aside0.mk (Zh hB_ hb); (try clear hb); (try clear ho0); (try clear ho1); obtain ⟨hcz5_0, hcz5_1, hfz5_0, hfz5_1⟩ := c2_ BK403.out; obtain ⟨Ao6, co6, eo6⟩ := ZN HO407.out; subst eo6))
 refine bodyPost_ret (results_ct rfl _ _ gb403 27 #[.int .i64 t404, .slice Ao6 t405.length co6] (0, 0) _ rfl (by (with_reducible repeat (first | refine Ze ?_ _ | refine Zf ?_ | refine Zd ?_ _)); refine ZB (cs := #[.int .i64 t404, .slice none 0 0]) ?_ 1 _ rfl; (with_reducible repeat (first | refine Ze ?_ _ | refine Zf ?_ | refine Zd ?_ _)); refine ZB (cs := #[.int .i64 0, .slice none 0 0]) ?_ 0 _ rfl; (with_reducible repeat (first | refine Ze ?_ _ | refine Zf ?_ | refine Zd ?_ _)); exact BK403.out) Try.underlying27 rfl (by kernel_rfl)) rfl ?_
 exact ⟨_, _, er_, by (with_reducible repeat (first | apply Zs | apply Zr | apply Zp)); exact Zt (Zq (p := ⟨gb403, 1, none⟩) (Zq (p := ⟨gb403, 0, none⟩) (Zv HO407.out BK403.out (by decide)) (fun _ hk => hk.2) (.int .i64 t404)) (fun _ hk => hk.2) (.slice Ao6 t405.length co6)) (fun _ hk => hk.1), by (with_reducible repeat (first | apply ZP | apply ZO | apply ZU)); exact Zw (Kd.R_far (p := ⟨gb403, 1, none⟩) (Kd.R_far (p := ⟨gb403, 0, none⟩) (Kd.R_types HO410.out BK403.out (by decide)) (fun _ hk => hk.2) (.int .i64 t404)) (fun _ hk => hk.2) (.slice Ao6 t405.length co6)) (fun _ hk => trivial), hB_⟩

/-! ### slices_Clone_int_int: function 94 -/
def slices_Clone_int_int.f (l0 : List Int) : Option (List Int) := (some (([] : List Int) : List Int)).bind fun y205 => (if y205.length + l0.length < 17592186044416 then (some (y205 ++ l0)) else (none))
theorem slices_Clone_int_int.some_ (ad : Addr) (c0 : Nat) (l0 : List Int) (r : List Int) (w : World) (hr0 : Kd.C (Kd.int .i64) w (some ad) l0.length l0) (hc0 : l0.length ≤ c0) (h : slices_Clone_int_int.f l0 = some r) :
    Calls Try.prog 94 #[.slice (some ad) l0.length c0] w fun e w' => ∃ v0_ : Value, e = .returned (v0_) ∧ Kd.R (Kd.int .i64) 3 w' w.heap.size (fun _ => True) v0_ r ∧ Below w.heap.size w w' := by
  have HR0 := Aside0.mk hr0
  have HC0 := Aside0.mk hc0
  clear hr0 hc0
  have HB := Aside0.mk (Below.refl w.heap.size w)
  have H : ((some (([] : List Int) : List Int)).bind fun y205 => (if y205.length + l0.length < 17592186044416 then (some (y205 ++ l0)) else (none))) = some r := h
  clear h
  obtain ⟨y205, hy205⟩ : ∃ y_ : List Int, y_ = (([] : List Int)) := ⟨_, rfl⟩
  replace H : (if y205.length + l0.length < 17592186044416 then (some (y205 ++ l0)) else (none)) = some r := hy_ hy205 H
  have Ny205 := Aside0.mk hy205
  clear hy205
  by_cases c2 : y205.length + l0.length < 17592186044416
  rotate_left
  ·rw [if_neg c2] at H
   exact absurd H (by simp)
  rw [if_pos c2] at H
  have LMc2 := Aside0.mk c2
  clear c2
  obtain ⟨y208, hy208⟩ : ∃ y_ : List Int, y_ = (y205 ++ l0) := ⟨_, rfl⟩
  replace H : (some y208) = some r := hy_ hy208 H
  have Ny208 := Aside0.mk hy208
  clear hy208
  obtain rfl := Option.some.inj H
  have he : ∀ w : World, (binOp .eql 31 (.slice (some ad) l0.length c0) (.slice none 0 0)).run Try.prog w = .ok (.bool false) w := fun _ => rfl
  go_enter Try.func94, Try.ntmps94
  go_wp2_with (first | ((with_reducible refine ZA (N := 5) rfl ?_); refine Kd.R_lit (Kd.int .i64) _ 3 ?hg (N := 5) ?hd (xs := ([] : List Int)) (inner := []) (ok := fun _ => True) (okp := fun _ => True) ?hr ?hp (fun _ hk => hk) trivial (Below.refl _ _) (Nat.le_refl _) (by simp) ?_; (case hd => rfl); (case hg => rfl); (case hr => first | (go_simp; done) | (go_simp; rfl)); (case hp => exact (Reps.none _ _)); intro v206 w3 ho4 hb hg_ hnew_; clear hg_ hnew_; (first | rw [← Ny205.out] at ho4 | (simp only [Int.reduceToNat] at ho4; rw [← Ny205.out] at ho4)); have HO207 := Aside0.mk (Kd.R_lower ho4 (Zm hB_)); replace HB := Aside0.mk (Zh hB_ hb); clear hb ho4) | ((with_reducible refine gate_builtin (b := .append) (xs := #[.tmp 5, .tmp 6]) rfl ?_); at_builtin; refine Kd.R_append_rows (Kd.int .i64) (w0 := w) w.heap.size rfl (.tmp 5) (.tmp 6) 31 3 (.int .i64 0) 8 rfl Try.underlying31 info3 rfl (by decide) (by omega) v206 y205 l0 _ _ _ (fun _ => True) (fun _ => False) rfl rfl ?aO ?aR (fun _ _ h => h) (fun _ h => h.elim) ?aF ?aB ?aS ?aL ?_; (case aR => exact cb_ HR0.out); (case aB => exact hB_); (case aF => exact (fun _ _ => trivial)); (case aO => exact (rR_ HO207.out)); (case aS => exact (Zm hB_)); (case aL => have := LMc2.out; omega); intro v209 w5 ho hb hg hat; rw [← Ny208.out] at ho; have n0_ := Aside0.mk (hb); have n1_ := Aside0.mk (ho); clear HB; clear HO207; have HB := n0_; have HO210 := n1_; clear n0_ n1_; clear ho hb hg hat))
  go_ret
  exact ⟨_, er_, rR_ HO210.out, hB_⟩
theorem slices_Clone_int_int.none_ (c0 : Nat) (l0 : List Int) (r : List Int) (w : World) (hr0 : Kd.C (Kd.int .i64) w none l0.length l0) (hc0 : l0.length ≤ c0) (h : slices_Clone_int_int.f l0 = some r) :
    Calls Try.prog 94 #[.slice none l0.length c0] w fun e w' => ∃ v0_ : Value, e = .returned (v0_) ∧ Kd.R (Kd.int .i64) 3 w' w.heap.size (fun _ => True) v0_ r ∧ Below w.heap.size w w' := by
  have hl : l0 = [] := by
    cases l0 with
    | nil => rfl
    | cons x l1 =>
      obtain ⟨ad, e, _⟩ := Zx hr0 0 (Int.le_refl _) (by rw [List.length_cons]; omega)
      exact absurd e (by simp)
  subst hl
  have h : some ([] : List Int) = some r := by simpa [slices_Clone_int_int.f] using h
  have HR0 := Aside0.mk hr0
  have HC0 := Aside0.mk hc0
  clear hr0 hc0
  have HB := Aside0.mk (Below.refl w.heap.size w)
  have H : (some ([] : List Int)) = some r := h
  clear h
  obtain rfl := Option.some.inj H
  have he : ∀ w : World, (binOp .eql 31 (.slice none 0 c0) (.slice none 0 0)).run Try.prog w = .ok (.bool true) w := fun _ => rfl
  go_enter Try.func94, Try.ntmps94
  go_wp2
  go_ret
  exact ⟨_, er_, by first | exact Kd.R_nil _ _ _ _ _ | exact Kd.N_nil _ _ _ _ _ | exact Kd.V_nil _ _ _ _ _ | exact Kd.Q_nil _ _ _ _ _ | exact Kd.S_nil _ _ _ _ _, hB_⟩
set_option maxRecDepth 100000 in
theorem slices_Clone_int_int.calls (A0 : Option Addr) (c0 : Nat) (l0 : List Int) (r : List Int) (w : World) (hr0 : Kd.C (Kd.int .i64) w A0 l0.length l0) (hc0 : l0.length ≤ c0) (h : slices_Clone_int_int.f l0 = some r) :
    Calls Try.prog 94 #[.slice A0 l0.length c0] w fun e w' => ∃ v0_ : Value, e = .returned (v0_) ∧ Kd.R (Kd.int .i64) 3 w' w.heap.size (fun _ => True) v0_ r ∧ Below w.heap.size w w' := by
  cases A0 with
  | none => exact slices_Clone_int_int.none_ c0 l0 r w hr0 hc0 h
  | some ad => exact slices_Clone_int_int.some_ ad c0 l0 r w hr0 hc0 h

/-! ### impl_cloneGraph: function 91 -/
def impl_cloneGraph.l0 : Nat → List (List Int) → Int → Int → Int → List (List Int) → Option (Int × (List (List Int)))
 | 0, _, _, _, _, _ => none
 | k + 1, x11, x12, x13, x417000, x417001 => if x13 < x12 then (if 0 ≤ x13 then (if x13 < (x11.length : Int) then ((slices_Clone_int_int.f (rd_L2 x11 x13)).bind fun t418 => (if x417001.length < 5864062014805 then (impl_cloneGraph.l0 k x11 x12 (wrap64 (x13 + 1)) x417000 (x417001 ++ [t418])) else (none))) else (none)) else (none)) else (some (x417000, x417001))
def impl_cloneGraph.f (k : Nat) (a0_0 : Int) (l0_1 : List (List Int)) : Option (Int × (List (List Int))) := impl_cloneGraph.l0 k l0_1 (l0_1.length : Int) 0 a0_0 (([] : List (List Int)))
theorem impl_cloneGraph.mono_l : ∀ k, (∀ y0 y1 y2 y3 y4, LeO (impl_cloneGraph.l0 k y0 y1 y2 y3 y4) (impl_cloneGraph.l0 (k + 1) y0 y1 y2 y3 y4))
 | 0 => fun _ _ _ _ _ r h => by simp [impl_cloneGraph.l0] at h
 | k + 1 => by
  have ih0 := impl_cloneGraph.mono_l k
  ·intro y0 y1 y2 y3 y4
   unfold impl_cloneGraph.l0
   repeat' with_reducible first | apply ih0 | apply ZJ | apply Zn | refine Zu ?_ ?_ | refine Zo ?_ (fun _ => ?_)
theorem impl_cloneGraph.mono : ∀ a0 a1 k, LeO (impl_cloneGraph.f k a0 a1) (impl_cloneGraph.f (k + 1) a0 a1) := by
 intro a0 a1 k
 have ih0 := impl_cloneGraph.mono_l k
 unfold impl_cloneGraph.f
 repeat' with_reducible first | apply ih0 | apply ZJ | apply Zn | refine Zu ?_ ?_ | refine Zo ?_ (fun _ => ?_)
def impl_cloneGraph.T5 : Bool × List (List Nat × List Nat) := (true, [([], []), ([0], [0]), ([], []), ([2], [2]), ([3], [3]), ([1, 4, 3], [1, 4]), ([0, 1, 2, 3, 4, 5], []), ([6, 5, 5, 0, 1, 2, 3, 4, 5], [5, 6])])
def impl_cloneGraph.B5 : List Nat := [0, 1, 0, 4, 12, 31, 63, 127]
theorem impl_cloneGraph.tab5 : rtab .any (opsOf Try.f91 5) = impl_cloneGraph.T5 := by kernel_rfl
theorem impl_cloneGraph.bits5 : waitsOk impl_cloneGraph.T5.2 impl_cloneGraph.B5 = true := by kernel_rfl
theorem impl_cloneGraph.calls (k : Nat) (a0_0 : Int) (A0_1 : Option Addr) (c0_1 : Nat) (l0_1 : List (List Int)) (r1 : Int) (r2 : List (List Int)) (w : World) (hr0_1 : Kd.C (Kd.slice 3 (Kd.int .i64)) w A0_1 l0_1.length l0_1) (hc0_1 : l0_1.length ≤ c0_1) (h : impl_cloneGraph.f k a0_0 l0_1 = some (r1, r2)) :
  Calls Try.prog 91 #[.agg #[.int .i64 a0_0, .slice A0_1 l0_1.length c0_1]] w fun e w' => ∃ v1_ : Value, e = .returned (.agg #[.int .i64 r1, v1_]) ∧ Kd.S (Kd.slice 3 (Kd.int .i64)) 31 w' w.heap.size (fun _ => True) v1_ r2 ∧ Below w.heap.size w w' := by
 have hu27 := Try.underlying27
 have HR0_1 := Aside0.mk hr0_1
 have HC0_1 := Aside0.mk hc0_1
 clear hr0_1 hc0_1
 have HB := Aside0.mk (Below.refl w.heap.size w)
 have H := h
 unfold impl_cloneGraph.f at H
 clear h
 obtain ⟨y413, hy413⟩ : ∃ y_ : List (List Int), y_ = (([] : List (List Int))) := ⟨_, rfl⟩
 replace H : (impl_cloneGraph.l0 k l0_1 (l0_1.length : Int) 0 a0_0 y413) = some (r1, r2) := hy_ hy413 H
 have Ny413 := Aside0.mk hy413
 clear hy413
 have H' := Aside0.mk H
 clear H
 go_enter Try.func91, Try.ntmps91
 go_wp2_with (first | ((with_reducible refine ZA (N := 1) rfl ?_); refine ZC ?hg (N := 1) ?hd (cs := #[.int .i64 a0_0, .slice A0_1 l0_1.length c0_1]) (t := 27) ?hr ?_; (case hd => rfl); (case hg => rfl); (case hr => first | (go_simp; done) | (go_simp; rfl)); intro gb411 hg w2 hbox hb; have BK411 := Aside0.mk (hbox); have GW411 := Aside0.mk ((hz_ hg : w.heap.size ≤ gb411)); have GE411 := Aside0.mk ((hz_ hg : w.heap.size ≤ gb411)); replace HB := Aside0.mk (Zh hB_ hb); clear hb hbox hg) | ((with_reducible refine ZA (N := 2) rfl ?_); refine ZC ?hg (N := 2) ?hd (cs := #[.int .i64 0, .slice none 0 0]) (t := 27) ?hr ?_; (case hd => rfl); (case hg => rfl); (case hr => first | (go_simp; done) | (go_simp; rfl)); intro gb412 hg w3 hbox hb; have BK412 := Aside0.mk (hbox); have GW412 := Aside0.mk ((hz_ hg : w.heap.size ≤ gb412)); have GE412 := Aside0.mk ((hz_ hg : w.heap.size ≤ gb412)); replace HB := Aside0.mk (Zh hB_ hb); have NB411_412 := Aside0.mk ((by rw [hg]; exact Nat.ne_of_lt (ZS (bq_ BK411.out)) : gb411 ≠ gb412)); have NB412_411 := Aside0.mk ((by rw [hg]; exact Nat.ne_of_gt (ZS (bq_ BK411.out)) : gb412 ≠ gb411)); replace BK411 := Aside0.mk (Zg (bq_ BK411.out) hb); clear hb hbox hg; have hnb4 := NB411_412.out; have hnc4 := NB412_411.out; obtain ⟨hcz5_0, hcz5_1, hfz5_0, hfz5_1⟩ := c2_ BK411.out) | ((with_reducible refine ZA (N := 8) rfl ?_); refine Kd.S_lit (Kd.slice 3 (Kd.int .i64)) _ 31 ?hg (N := 8) ?hd (xs := ([] : List (List Int))) (inner := []) (ok := fun _ => True) (okp := fun _ => True) ?hr ?hp (fun _ hk => hk) trivial (Below.refl _ _) (Nat.le_refl _) (by simp) ?_; (case hd => rfl); (case hg => rfl); (case hr => first | (go_simp; done) | (go_simp; rfl)); (case hp => exact (Reps.none _ _)); intro v414 w6 ho7 hb hg_ hnew_; clear hg_ hnew_; (first | rw [← Ny413.out] at ho7 | (simp only [Int.reduceToNat] at ho7; rw [← Ny413.out] at ho7)); have HO415 := Aside0.mk (Kd.S_lower ho7 (Zm hB_)); replace BK411 := Aside0.mk (Zg (bq_ BK411.out) hb); replace BK412 := Aside0.mk (Zg (bq_ BK412.out) hb); replace HB := Aside0.mk (Zh hB_ hb); clear hb ho7; obtain ⟨Ao8, co8, eo8⟩ := ZN HO415.out; subst eo8) | ((with_reducible refine ZA (N := 3) rfl ?_); refine ZC ?hg (N := 3) ?hd (cs := #[.int .i64 0, .slice none 0 0]) (t := 27) ?hr ?_; (case hd => rfl); (case hg => rfl); (case hr => first | (go_simp; done) | (go_simp; rfl)); intro gb416 hg w9 hbox hb; replace HO415 := Aside0.mk (Zz (rS_ HO415.out) hb); have BK416 := Aside0.mk (hbox); have GW416 := Aside0.mk ((hz_ hg : w.heap.size ≤ gb416)); have GE416 := Aside0.mk ((hz_ hg : w.heap.size ≤ gb416)); replace HB := Aside0.mk (Zh hB_ hb); have NB411_416 := Aside0.mk ((by rw [hg]; exact Nat.ne_of_lt (ZS (bq_ BK411.out)) : gb411 ≠ gb416)); have NB416_411 := Aside0.mk ((by rw [hg]; exact Nat.ne_of_gt (ZS (bq_ BK411.out)) : gb416 ≠ gb411)); replace BK411 := Aside0.mk (Zg (bq_ BK411.out) hb); have NB412_416 := Aside0.mk ((by rw [hg]; exact Nat.ne_of_lt (ZS (bq_ BK412.out)) : gb412 ≠ gb416)); have NB416_412 := Aside0.mk ((by rw [hg]; exact Nat.ne_of_gt (ZS (bq_ BK412.out)) : gb416 ≠ gb412)); replace BK412 := Aside0.mk (Zg (bq_ BK412.out) hb); clear hb hbox hg; have hnb10 := NB416_411.out; have hnc10 := NB411_416.out; have hnb11 := NB416_412.out; have hnc11 := NB412_416.out; obtain ⟨hcz12_0, hcz12_1, hfz12_0, hfz12_1⟩ := c2_ BK416.out; obtain ⟨hcz13_0, hcz13_1, hfz13_0, hfz13_1⟩ := c2_ BK411.out))
 go_loopg [13] k (fun kq v13 w' => ∃ (x13_1 : Int) (x417001_1 : List (List Int)) (u417001 : Value), v13 = .int .i64 x13_1 ∧ Aside0 (impl_cloneGraph.l0 kq l0_1 (l0_1.length : Int) x13_1 a0_0 x417001_1 = some (r1, r2)) ∧ Aside0 (kq ≤ k) ∧ Aside0 (Kd.S (Kd.slice 3 (Kd.int .i64)) 31 w' w.heap.size (fun _ => True) u417001 x417001_1) ∧ Aside0 (w'.heap[gb412]? = some (.cells #[.int .i64 0, (.slice none 0 0)] 27 (0, 0))) ∧ Aside0 (w'.heap[gb416]? = some (.cells #[.int .i64 a0_0, u417001] 27 (0, 0))) ∧ Aside0 (Below w.heap.size w w'))
 case atStart => exact ⟨(0), (y413), (.slice Ao8 y413.length co8), sm_, H', ⟨Nat.le_refl _⟩, ⟨by (with_reducible repeat (first | apply Zs | apply Zr | apply Zp)); exact Zt (Zq (p := ⟨gb416, 1, none⟩) (Zq (p := ⟨gb416, 0, none⟩) (Zv HO415.out BK416.out (by decide)) (fun _ hk => hk.2) (.int .i64 a0_0)) (fun _ hk => hk.2) (.slice Ao8 y413.length co8)) (fun _ hk => trivial)⟩, ⟨by (with_reducible repeat (first | refine Ze ?_ _ | refine Zf ?_ | refine Zd ?_ _)); refine ZG ?_ NB412_416.out _; (with_reducible repeat (first | refine Ze ?_ _ | refine Zf ?_ | refine Zd ?_ _)); refine ZG ?_ NB412_416.out _; (with_reducible repeat (first | refine Ze ?_ _ | refine Zf ?_ | refine Zd ?_ _)); exact BK412.out⟩, ⟨by (with_reducible repeat (first | refine Ze ?_ _ | refine Zf ?_ | refine Zd ?_ _)); refine ZB (cs := #[.int .i64 a0_0, .slice none 0 0]) ?_ 1 _ rfl; (with_reducible repeat (first | refine Ze ?_ _ | refine Zf ?_ | refine Zd ?_ _)); refine ZB (cs := #[.int .i64 0, .slice none 0 0]) ?_ 0 _ rfl; (with_reducible repeat (first | refine Ze ?_ _ | refine Zf ?_ | refine Zd ?_ _)); exact BK416.out⟩, ⟨hB_⟩⟩
 case round =>
  clear H'
  try clear c1
  try clear p2
  try clear c4
  try clear c9
  try clear c10
  try clear c11
  try clear hcz12_0
  try clear hcz12_1
  try clear hcz13_0
  try clear hcz13_1
  try clear hcz5_0
  try clear hcz5_1
  try clear hfz12_0
  try clear hfz12_1
  try clear hfz13_0
  try clear hfz13_1
  try clear hfz5_0
  try clear hfz5_1
  obtain ⟨x13_1, x417001_1, u417001, rfl, HA, HK1, HO_417001, BK412, BK416, HB⟩ := hrel
  cases gk with
  | zero => exact absurd HA.out (by simp [impl_cloneGraph.l0])
  | succ k1 =>
   have H := HA.out
   clear HA
   simp only [impl_cloneGraph.l0] at H
   by_cases c14 : x13_1 < (l0_1.length : Int)
   rotate_left
   ·rw [if_neg c14] at H
    have c14b0 : decide (x13_1 < (l0_1.length : Int)) = false := decide_eq_false c14
    clear c14
    simp only [Option.some.injEq, Prod.mk.injEq] at H
    obtain ⟨rfl, rfl⟩ := H
    have hnb25 := NB416_412.out
    have hnc25 := NB412_416.out
    obtain ⟨hcz26_0, hcz26_1, hfz26_0, hfz26_1⟩ := c2_ BK416.out
    obtain ⟨hcz27_0, hcz27_1, hfz27_0, hfz27_1⟩ := c2_ BK412.out
    obtain ⟨Ao28, co28, eo28⟩ := ZN HO_417001.out
    subst eo28
    go_wp2
    refine bodyPost_ret (results_cell_row rfl _ _ gb412 27 #[.int .i64 a0_0, .slice Ao28 x417001_1.length co28] (0, 0) _ rfl (by (with_reducible repeat (first | refine Ze ?_ _ | refine Zf ?_ | refine Zd ?_ _)); refine ZB (cs := #[.int .i64 a0_0, .slice none 0 0]) ?_ 1 _ rfl; (with_reducible repeat (first | refine Ze ?_ _ | refine Zf ?_ | refine Zd ?_ _)); refine ZB (cs := #[.int .i64 0, .slice none 0 0]) ?_ 0 _ rfl; (with_reducible repeat (first | refine Ze ?_ _ | refine Zf ?_ | refine Zd ?_ _)); exact BK412.out) Try.underlying27 rfl (by kernel_rfl)) rfl ?_
    exact ⟨_, er_, by (with_reducible repeat (first | apply Zs | apply Zr | apply Zp)); exact Zt (Zq (p := ⟨gb412, 1, none⟩) (Zq (p := ⟨gb412, 0, none⟩) (Zv HO_417001.out BK412.out (by decide)) (fun _ hk => hk.2) (.int .i64 a0_0)) (fun _ hk => hk.2) (.slice Ao28 x417001_1.length co28)) (fun _ hk => trivial), hB_⟩
   rw [if_pos c14] at H
   have c14b0 : decide (x13_1 < (l0_1.length : Int)) = true := decide_eq_true c14
   clear c14
   by_cases c15 : 0 ≤ x13_1
   rotate_left
   ·rw [if_neg c15] at H
    exact absurd H (by simp)
   rw [if_pos c15] at H
   have c15b0 : decide (0 ≤ x13_1) = true := decide_eq_true c15
   clear c15
   by_cases c16 : x13_1 < (l0_1.length : Int)
   rotate_left
   ·rw [if_neg c16] at H
    exact absurd H (by simp)
   rw [if_pos c16] at H
   have c16b0 : decide (x13_1 < (l0_1.length : Int)) = true := decide_eq_true c16
   clear c16
   obtain ⟨t418, A17, H⟩ := bd_ H
   try dsimp only at H
   by_cases c18 : x417001_1.length < 5864062014805
   rotate_left
   ·rw [if_neg c18] at H
    exact absurd H (by simp)
   rw [if_pos c18] at H
   have LMc18 := Aside0.mk c18
   clear c18
   obtain ⟨y421, hy421⟩ : ∃ y_ : List (List Int), y_ = (x417001_1 ++ [t418]) := ⟨_, rfl⟩
   replace H : (impl_cloneGraph.l0 k1 l0_1 (l0_1.length : Int) (wrap64 (x13_1 + 1)) a0_0 y421) = some (r1, r2) := hy_ hy421 H
   have Ny421 := Aside0.mk hy421
   clear hy421
   have H' := Aside0.mk H
   clear H
   have p417 : 0 ≤ (x13_1 : Int) := of_decide_eq_true as_
   have q417 : x13_1 < (l0_1.length : Int) := of_decide_eq_true as_
   obtain ⟨ad417, A417_0, c417_0, e417, hx417_0, hl417_0, hi417_0⟩ := at_L2 HR0_1.out x13_1 p417 q417
   cases e417
   replace hx417_0 := (HB.out.cell (World.block_lt_of_cell? w _ hx417_0)).trans hx417_0
   have HR417_0 := Aside0.mk hi417_0
   have HC417_0 := Aside0.mk hl417_0
   clear hi417_0 hl417_0
   replace p417 := eq_true p417
   replace q417 := eq_true q417
   try go_wp2
   replace HO_417001 := Aside0.mk (Zp HO_417001.out)
   replace BK412 := Aside0.mk (Zf BK412.out)
   replace BK416 := Aside0.mk (Zf BK416.out)
   replace HB := Aside0.mk (Zj HB.out)
   refine start_ (n := 8) (S := fun w' => w'.cell? ⟨gb416, 0, none⟩ = some (.int .i64 a0_0) ∧ w'.cell? ⟨gb416, 1, none⟩ = some (u417001)) (ds := [7]) (m_ 8 0) (by kernel_rfl) rfl rfl ⟨(Za BK416.out 0).trans rfl, (Za BK416.out 1).trans rfl⟩ (fun hHeld => ?_); refine with_tabW impl_cloneGraph.tab5 impl_cloneGraph.bits5 (fun HT_ HW_ => ?_)
   generalize wr.drew = w19 at HO_417001 BK412 BK416 HB hHeld ⊢
   refine pu_ 0 17 (m_ 8 1) ?_
   refine pu_ 2 19 (m_ 8 5) ?_
   refine tk2_ 1 18 (m_ 8 7) hHeld ?_
   refine on_ 3 20 (m_ 8 15) (fun K hK => ?_)
   refine goes_ Try.func94 (by kernel_rfl) rfl #[.slice A417_0 (rd_L2 l0_1 x13_1).length c417_0] (by rfl) rfl rfl ar_ ?_
   with_reducible refine (slices_Clone_int_int.calls _ _ (rd_L2 l0_1 x13_1) t418 _ ?side1 ?side2 A17.out).mono ?_
   (case side1 => exact cb_ HR417_0.out)
   (case side2 => exact HC417_0.out)
   rintro e w20 ⟨v419, rfl, ho0, hb⟩
   refine ⟨_, rfl, ?_⟩
   replace HO_417001 := Aside0.mk (Kd.S_elder' (rS_ HO_417001.out) (Kd.R_base ho0) hb)
   have HO420 := Aside0.mk (Kd.R_lower ho0 (Zm hB_))
   replace BK412 := Aside0.mk (Zg (bq_ BK412.out) hb)
   replace BK416 := Aside0.mk (Zg (bq_ BK416.out) hb)
   replace HB := Aside0.mk (Zh hB_ hb)
   (try clear hb)
   (try clear hb2)
   (try clear hk)
   (try clear hi)
   (try clear ho0)
   obtain ⟨Ao22, co22, eo22⟩ := Kd.R_slice HO420.out
   (first | subst eo22 | (injection eo22 with f1_ f2_ f3_; have f4_ := f1_.symm; have f5_ := f3_.symm; clear f1_ f2_ f3_; subst f4_; subst f5_))
   refine hK.out _ _ ⟨(Za BK416.out 0).trans rfl, (Za BK416.out 1).trans rfl⟩ (fun hHeld => ?_)
   clear hK K
   refine no_ 20 ?_
   refine on_ 4 21 (m_ 8 31) (fun K hK => ?_)
   refine value_ (w1 := ?_) (v := ?_) (by rfl) rfl ?_ ?_
   rotate_left 2
   ·go_simp
    constructor
    ·rfl
    rfl
   refine hK.out _ _ ⟨(Za (Zd BK416.out _) 0).trans rfl, (Za (Zd BK416.out _) 1).trans rfl⟩ (fun hHeld => ?_)
   clear hK K
   refine no_ 21 ?_
   refine on_ 5 22 (m_ 8 63) (fun K hK => ?_)
   refine Kd.S_append_step (Kd.slice 3 (Kd.int .i64)) (w0 := w) w.heap.size (by rfl) (.tmp 18) (.tmp 21) 22 31 (.slice none 0 0) 24 rfl Try.underlying22 info31 rfl (by decide) (by omega) u417001 x417001_1 t418 [.slice Ao22 t418.length co22] (fun _ => True) (fun k_ => some k_ = (.slice Ao22 t418.length co22 : Value).ownBlock) rfl rfl ?aP (fun k_ hk_ => ((Zw (ok' := fun k_ => ((fun _ => True)) k_ ∧ some k_ ≠ (u417001 : Value).ownBlock) (Kd.R_apart' (HO420.out) (Kd.S_typed HO_417001.out) (by decide)) (fun k_ hk => ⟨trivial, hk.2⟩))).1 k_ hk_.symm) ?aF ?aO ?aB ?aS ?aL ?_
   (case aP => exact Kd.M_row (Zw (Kd.R_tight rfl (Zw (ok' := fun k_ => ((fun _ => True)) k_ ∧ some k_ ≠ (u417001 : Value).ownBlock) (Kd.R_apart' (HO420.out) (Kd.S_typed HO_417001.out) (by decide)) (fun k_ hk => ⟨trivial, hk.2⟩))) (fun _ h_ => h_)))
   (case aB => exact hB_)
   (case aF => exact (fun _ _ => trivial))
   (case aO => exact (by (with_reducible repeat (first | apply Zs | apply Zr | apply Zp)); exact Zt HO_417001.out (fun k_ hk => ⟨trivial, fun e_ => hk.2 e_⟩)))
   (case aS => exact (Zm hB_))
   (case aL => have := LMc18.out; omega)
   intro v422 w21 ho hb hg hat
   rw [← Ny421.out] at ho
   have n0_ := Aside0.mk (ZT (bq_ BK412.out) hg (Kd.S_ne HO_417001.out BK412.out (by decide)))
   have n1_ := Aside0.mk (ZT (bq_ BK416.out) hg (Kd.S_ne HO_417001.out BK416.out (by decide)))
   have n2_ := Aside0.mk (hb)
   have n3_ := Aside0.mk (ho)
   clear BK412
   clear BK416
   clear HB
   clear HO_417001
   clear HO420
   have BK412 := n0_
   have BK416 := n1_
   have HB := n2_
   have HO423 := n3_
   clear n0_ n1_ n2_ n3_
   clear ho hb hg hat
   obtain ⟨Ao23, co23, eo23⟩ := ZN HO423.out
   (first | subst eo23 | (injection eo23 with f1_ f2_ f3_; have f4_ := f1_.symm; have f5_ := f3_.symm; clear f1_ f2_ f3_; subst f4_; subst f5_))
   refine hK.out _ _ ⟨(Za BK416.out 0).trans rfl, (Za BK416.out 1).trans rfl⟩ (fun hHeld => ?_)
   clear hK K
   refine no_ 22 ?_
   refine pu_ 6 23 (m_ 8 127) ?_
   refine last_ (i := 7) (N := none) (m_ 8 255) rfl rfl (one_of HT_.out (by kernel_rfl)) (by decide) (fun K hK => ?_)
   have hs24 : w21.cell? ⟨gb416, 1, none⟩ = some (u417001) := (Za BK416.out 1).trans rfl
   have hfs24 := Zb BK416.out 1
   have hns24_0 := NB412_416.out
   have hms24_0 := NB416_412.out
   refine skip_ (w1 := ?_) (by rfl) rfl ?_ ?_
   rotate_left
   ·go_simp
    rfl
   refine hK.out _ _ ?_
   clear hK K
   refine done_ (done_of HT_.out (by kernel_rfl)) ?_
   try go_wp2
   go_roundg k1
   case measure => have := HK1.out; omega
   case rel => exact ⟨(wrap64 (x13_1 + 1)), (y421), (.slice Ao23 y421.length co23), sm_, H', ⟨by have := HK1.out; omega⟩, ⟨by (with_reducible repeat (first | apply Zs | apply Zr | apply Zp)); exact Zt (Zq (p := ⟨gb416, 1, none⟩) (Zv HO423.out BK416.out (by decide)) (fun _ hk => hk.2) (.slice Ao23 y421.length co23)) (fun _ hk => trivial)⟩, ⟨by (with_reducible repeat (first | refine Ze ?_ _ | refine Zf ?_ | refine Zd ?_ _)); refine ZG ?_ NB412_416.out _; (with_reducible repeat (first | refine Ze ?_ _ | refine Zf ?_ | refine Zd ?_ _)); exact BK412.out⟩, ⟨by (with_reducible repeat (first | refine Ze ?_ _ | refine Zf ?_ | refine Zd ?_ _)); refine ZB (cs := #[.int .i64 a0_0, u417001]) ?_ 1 _ rfl; (with_reducible repeat (first | refine Ze ?_ _ | refine Zf ?_ | refine Zd ?_ _)); exact BK416.out⟩, ⟨hB_⟩⟩

/-! ### impl_WithClaim: function 42 -/
def impl_WithClaim.l0 : Nat → List Int → Int → Int → Int → List (List Int) → Int → List (List Int) → Option (Int × (List (List Int)) × Bool)
 | 0, _, _, _, _, _, _, _ => none
 | k + 1, x21, x22, x23, x425000, x425001, x436000, x436001 => if x23 < x22 then (if 0 ≤ x23 then (if x23 < (x21.length : Int) then (if x436001.length < 5864062014805 then (impl_WithClaim.l0 k x21 x22 (wrap64 (x23 + 1)) x425000 x425001 x436000 (x436001 ++ [(([x425000, rd x21 x23] : List Int))])) else (none)) else (none)) else (none)) else ((impl_IsGraph.f k x436000 x436001).bind fun t443 => (if t443 = true then (some (x436000, x436001, true)) else ((impl_cloneGraph.f k x425000 x425001).bind fun bt444 => (some (bt444.1, bt444.2, false)))))
def impl_WithClaim.f (k : Nat) (a0_0 : Int) (l0_1 : List (List Int)) (l1 : List Int) : Option (Int × (List (List Int)) × Bool) := (impl_IsSet.f k a0_0 l0_1 l1).bind fun t426 => (if t426 = true then ((impl_cloneGraph.f k a0_0 l0_1).bind fun bt431 => (impl_WithClaim.l0 k l1 (l1.length : Int) 0 a0_0 l0_1 (wrap64 (bt431.1 + 1)) bt431.2)) else ((impl_cloneGraph.f k a0_0 l0_1).bind fun bt427 => (some (bt427.1, bt427.2, false))))
theorem impl_WithClaim.mono_l : ∀ k, (∀ y0 y1 y2 y3 y4 y5 y6, LeO (impl_WithClaim.l0 k y0 y1 y2 y3 y4 y5 y6) (impl_WithClaim.l0 (k + 1) y0 y1 y2 y3 y4 y5 y6))
 | 0 => fun _ _ _ _ _ _ _ r h => by simp [impl_WithClaim.l0] at h
 | k + 1 => by
  have ih0 := impl_WithClaim.mono_l k
  ·intro y0 y1 y2 y3 y4 y5 y6
   unfold impl_WithClaim.l0
   repeat' with_reducible first | apply ih0 | apply impl_IsGraph.mono | apply impl_IsSet.mono | apply impl_cloneGraph.mono | apply ZJ | apply Zn | refine Zu ?_ ?_ | refine Zo ?_ (fun _ => ?_)
theorem impl_WithClaim.mono : ∀ a0 a1 a2 k, LeO (impl_WithClaim.f k a0 a1 a2) (impl_WithClaim.f (k + 1) a0 a1 a2) := by
 intro a0 a1 a2 k
 have ih0 := impl_WithClaim.mono_l k
 unfold impl_WithClaim.f
 repeat' with_reducible first | apply ih0 | apply impl_IsGraph.mono | apply impl_IsSet.mono | apply impl_cloneGraph.mono | apply ZJ | apply Zn | refine Zu ?_ ?_ | refine Zo ?_ (fun _ => ?_)
theorem impl_WithClaim.calls (k : Nat) (a0_0 : Int) (A0_1 : Option Addr) (c0_1 : Nat) (l0_1 : List (List Int)) (A1 : Option Addr) (c1 : Nat) (l1 : List Int) (r1 : Int) (r2 : List (List Int)) (r3 : Bool) (w : World) (hr0_1 : Kd.C (Kd.slice 3 (Kd.int .i64)) w A0_1 l0_1.length l0_1) (hc0_1 : l0_1.length ≤ c0_1) (hr1 : Kd.C (Kd.int .i64) w A1 l1.length l1) (hc1 : l1.length ≤ c1) (h : impl_WithClaim.f k a0_0 l0_1 l1 = some (r1, r2, r3)) :
  Calls Try.prog 42 #[.agg #[.int .i64 a0_0, .slice A0_1 l0_1.length c0_1], .slice A1 l1.length c1] w fun e w' => ∃ v1_ : Value, e = .returned (.tuple #[.agg #[.int .i64 r1, v1_], .bool r3]) ∧ Kd.S (Kd.slice 3 (Kd.int .i64)) 31 w' w.heap.size (fun _ => True) v1_ r2 ∧ Below w.heap.size w w' := by
 have hu27 := Try.underlying27
 have HR0_1 := Aside0.mk hr0_1
 have HC0_1 := Aside0.mk hc0_1
 clear hr0_1 hc0_1
 have HR1 := Aside0.mk hr1
 have HC1 := Aside0.mk hc1
 clear hr1 hc1
 have HB := Aside0.mk (Below.refl w.heap.size w)
 have H := h
 unfold impl_WithClaim.f at H
 clear h
 obtain ⟨t426, A3, H⟩ := bd_ H
 try dsimp only at H
 by_cases c4 : t426 = true
 rotate_left
 ·replace c4 := Bool.eq_false_iff.mpr c4
  subst c4
  have H1 : ((impl_cloneGraph.f k a0_0 l0_1).bind fun bt427 => (some (bt427.1, bt427.2, false))) = some (r1, r2, r3) := by rw [if_neg (show ¬ (false = true) by decide)] at H; exact H
  clear H
  have H := H1
  clear H1
  obtain ⟨⟨t427, t428⟩, A53, H⟩ := bd_ H
  try dsimp only at H
  simp only [Option.some.injEq, Prod.mk.injEq] at H
  obtain ⟨rfl, rfl, rfl⟩ := H
  go_enter Try.func42, Try.ntmps42
  go_wp2_with (first | ((with_reducible refine ZA (N := 2) rfl ?_); refine ZC ?hg (N := 2) ?hd (cs := #[.int .i64 a0_0, .slice A0_1 l0_1.length c0_1]) (t := 27) ?hr ?_; (case hd => rfl); (case hg => rfl); (case hr => first | (go_simp; done) | (go_simp; rfl)); intro gb424 hg w54 hbox hb; have BK424 := Aside0.mk (hbox); have GW424 := Aside0.mk ((hz_ hg : w.heap.size ≤ gb424)); have GE424 := Aside0.mk ((hz_ hg : w.heap.size ≤ gb424)); replace HB := Aside0.mk (Zh hB_ hb); clear hb hbox hg) | ((with_reducible refine ZA (N := 4) rfl ?_); refine ZC ?hg (N := 4) ?hd (cs := #[.int .i64 0, .slice none 0 0]) (t := 27) ?hr ?_; (case hd => rfl); (case hg => rfl); (case hr => first | (go_simp; done) | (go_simp; rfl)); intro gb425 hg w55 hbox hb; have BK425 := Aside0.mk (hbox); have GW425 := Aside0.mk ((hz_ hg : w.heap.size ≤ gb425)); have GE425 := Aside0.mk ((hz_ hg : w.heap.size ≤ gb425)); replace HB := Aside0.mk (Zh hB_ hb); have NB424_425 := Aside0.mk ((by rw [hg]; exact Nat.ne_of_lt (ZS (bq_ BK424.out)) : gb424 ≠ gb425)); have NB425_424 := Aside0.mk ((by rw [hg]; exact Nat.ne_of_gt (ZS (bq_ BK424.out)) : gb425 ≠ gb424)); replace BK424 := Aside0.mk (Zg (bq_ BK424.out) hb); clear hb hbox hg; have hnb56 := NB424_425.out; have hnc56 := NB425_424.out; obtain ⟨hcz57_0, hcz57_1, hfz57_0, hfz57_1⟩ := c2_ BK424.out) | ((with_reducible refine Zl (f := 90) rfl ?_); refine ZI (some 11) rfl rfl Try.func90 (by kernel_rfl) rfl #[.agg #[.int .i64 a0_0, .slice A0_1 l0_1.length c0_1], .slice A1 l1.length c1] rfl ar_ ?_; (with_reducible refine (impl_IsSet.calls k a0_0 _ _ l0_1 _ _ l1 false _ ?side1 ?side2 ?side3 ?side4 A3.out).mono ?_); (case side1 => exact cb_ HR0_1.out); (case side2 => exact HC0_1.out); (case side3 => exact cb_ HR1.out); (case side4 => exact HC1.out); rintro e w58 ⟨rfl, hb⟩; refine ⟨_, rfl, ?_⟩; replace BK424 := Aside0.mk (Zg (bq_ BK424.out) hb); replace BK425 := Aside0.mk (Zg (bq_ BK425.out) hb); replace HB := Aside0.mk (Zh hB_ hb); (try clear hb); obtain ⟨hcz59_0, hcz59_1, hfz59_0, hfz59_1⟩ := c2_ BK424.out; (try clear BK424)) | ((with_reducible refine Zl (f := 91) rfl ?_); refine ZI (some 14) rfl rfl Try.func91 (by kernel_rfl) rfl #[.agg #[.int .i64 a0_0, .slice A0_1 l0_1.length c0_1]] rfl ar_ ?_; (with_reducible refine (impl_cloneGraph.calls k a0_0 _ _ l0_1 t427 t428 _ ?side1 ?side2 A53.out).mono ?_); (case side1 => exact cb_ HR0_1.out); (case side2 => exact HC0_1.out); rintro e w60 ⟨v429, rfl, ho0, hb⟩; refine ⟨_, rfl, ?_⟩; have HO430 := Aside0.mk (Kd.S_lower ho0 (Zm hB_)); replace BK425 := Aside0.mk (Zg (bq_ BK425.out) hb); replace HB := Aside0.mk (Zh hB_ hb); (try clear hb); (try clear ho0); obtain ⟨hcz61_0, hcz61_1, hfz61_0, hfz61_1⟩ := c2_ BK425.out; obtain ⟨Ao62, co62, eo62⟩ := ZN HO430.out; subst eo62))
  refine bodyPost_ret (results_ct rfl _ _ gb425 27 #[.int .i64 t427, .slice Ao62 t428.length co62] (0, 0) _ rfl (by (with_reducible repeat (first | refine Ze ?_ _ | refine Zf ?_ | refine Zd ?_ _)); refine ZB (cs := #[.int .i64 t427, .slice none 0 0]) ?_ 1 _ rfl; (with_reducible repeat (first | refine Ze ?_ _ | refine Zf ?_ | refine Zd ?_ _)); refine ZB (cs := #[.int .i64 0, .slice none 0 0]) ?_ 0 _ rfl; (with_reducible repeat (first | refine Ze ?_ _ | refine Zf ?_ | refine Zd ?_ _)); exact BK425.out) Try.underlying27 rfl (by kernel_rfl)) rfl ?_
  exact ⟨_, er_, by (with_reducible repeat (first | apply Zs | apply Zr | apply Zp)); exact Zt (Zq (p := ⟨gb425, 1, none⟩) (Zq (p := ⟨gb425, 0, none⟩) (Zv HO430.out BK425.out (by decide)) (fun _ hk => hk.2) (.int .i64 t427)) (fun _ hk => hk.2) (.slice Ao62 t428.length co62)) (fun _ hk => trivial), hB_⟩
 subst c4
 have H1 : ((impl_cloneGraph.f k a0_0 l0_1).bind fun bt431 => (impl_WithClaim.l0 k l1 (l1.length : Int) 0 a0_0 l0_1 (wrap64 (bt431.1 + 1)) bt431.2)) = some (r1, r2, r3) := by rw [if_pos rfl] at H; exact H
 clear H
 have H := H1
 clear H1
 obtain ⟨⟨t431, t432⟩, A5, H⟩ := bd_ H
 try dsimp only at H
 have H' := Aside0.mk H
 clear H
 go_enter Try.func42, Try.ntmps42
 go_wp2_with (first | ((with_reducible refine ZA (N := 2) rfl ?_); refine ZC ?hg (N := 2) ?hd (cs := #[.int .i64 a0_0, .slice A0_1 l0_1.length c0_1]) (t := 27) ?hr ?_; (case hd => rfl); (case hg => rfl); (case hr => first | (go_simp; done) | (go_simp; rfl)); intro gb424 hg w6 hbox hb; have BK424 := Aside0.mk (hbox); have GW424 := Aside0.mk ((hz_ hg : w.heap.size ≤ gb424)); have GE424 := Aside0.mk ((hz_ hg : w.heap.size ≤ gb424)); replace HB := Aside0.mk (Zh hB_ hb); clear hb hbox hg) | ((with_reducible refine ZA (N := 4) rfl ?_); refine ZC ?hg (N := 4) ?hd (cs := #[.int .i64 0, .slice none 0 0]) (t := 27) ?hr ?_; (case hd => rfl); (case hg => rfl); (case hr => first | (go_simp; done) | (go_simp; rfl)); intro gb425 hg w7 hbox hb; have BK425 := Aside0.mk (hbox); have GW425 := Aside0.mk ((hz_ hg : w.heap.size ≤ gb425)); have GE425 := Aside0.mk ((hz_ hg : w.heap.size ≤ gb425)); replace HB := Aside0.mk (Zh hB_ hb); have NB424_425 := Aside0.mk ((by rw [hg]; exact Nat.ne_of_lt (ZS (bq_ BK424.out)) : gb424 ≠ gb425)); have NB425_424 := Aside0.mk ((by rw [hg]; exact Nat.ne_of_gt (ZS (bq_ BK424.out)) : gb425 ≠ gb424)); replace BK424 := Aside0.mk (Zg (bq_ BK424.out) hb); clear hb hbox hg; have hnb8 := NB424_425.out; have hnc8 := NB425_424.out; obtain ⟨hcz9_0, hcz9_1, hfz9_0, hfz9_1⟩ := c2_ BK424.out) | ((with_reducible refine Zl (f := 90) rfl ?_); refine ZI (some 11) rfl rfl Try.func90 (by kernel_rfl) rfl #[.agg #[.int .i64 a0_0, .slice A0_1 l0_1.length c0_1], .slice A1 l1.length c1] rfl ar_ ?_; (with_reducible refine (impl_IsSet.calls k a0_0 _ _ l0_1 _ _ l1 true _ ?side1 ?side2 ?side3 ?side4 A3.out).mono ?_); (case side1 => exact cb_ HR0_1.out); (case side2 => exact HC0_1.out); (case side3 => exact cb_ HR1.out); (case side4 => exact HC1.out); rintro e w10 ⟨rfl, hb⟩; refine ⟨_, rfl, ?_⟩; replace BK424 := Aside0.mk (Zg (bq_ BK424.out) hb); replace BK425 := Aside0.mk (Zg (bq_ BK425.out) hb); replace HB := Aside0.mk (Zh hB_ hb); (try clear hb); obtain ⟨hcz11_0, hcz11_1, hfz11_0, hfz11_1⟩ := c2_ BK424.out) | ((with_reducible refine Zl (f := 91) rfl ?_); refine ZI (some 16) rfl rfl Try.func91 (by kernel_rfl) rfl #[.agg #[.int .i64 a0_0, .slice A0_1 l0_1.length c0_1]] rfl ar_ ?_; (with_reducible refine (impl_cloneGraph.calls k a0_0 _ _ l0_1 t431 t432 _ ?side1 ?side2 A5.out).mono ?_); (case side1 => exact cb_ HR0_1.out); (case side2 => exact HC0_1.out); rintro e w12 ⟨v433, rfl, ho0, hb⟩; refine ⟨_, rfl, ?_⟩; have HO434 := Aside0.mk (Kd.S_lower ho0 (Zm hB_)); replace BK424 := Aside0.mk (Zg (bq_ BK424.out) hb); replace BK425 := Aside0.mk (Zg (bq_ BK425.out) hb); replace HB := Aside0.mk (Zh hB_ hb); (try clear hb); (try clear ho0)) | ((with_reducible refine ZA (N := 6) rfl ?_); refine ZC ?hg (N := 6) ?hd (cs := #[.int .i64 0, .slice none 0 0]) (t := 27) ?hr ?_; (case hd => rfl); (case hg => rfl); (case hr => first | (go_simp; done) | (go_simp; rfl)); intro gb435 hg w13 hbox hb; replace HO434 := Aside0.mk (Zz (rS_ HO434.out) hb); have BK435 := Aside0.mk (hbox); have GW435 := Aside0.mk ((hz_ hg : w.heap.size ≤ gb435)); have GE435 := Aside0.mk ((hz_ hg : w.heap.size ≤ gb435)); replace HB := Aside0.mk (Zh hB_ hb); have NB424_435 := Aside0.mk ((by rw [hg]; exact Nat.ne_of_lt (ZS (bq_ BK424.out)) : gb424 ≠ gb435)); have NB435_424 := Aside0.mk ((by rw [hg]; exact Nat.ne_of_gt (ZS (bq_ BK424.out)) : gb435 ≠ gb424)); replace BK424 := Aside0.mk (Zg (bq_ BK424.out) hb); have NB425_435 := Aside0.mk ((by rw [hg]; exact Nat.ne_of_lt (ZS (bq_ BK425.out)) : gb425 ≠ gb435)); have NB435_425 := Aside0.mk ((by rw [hg]; exact Nat.ne_of_gt (ZS (bq_ BK425.out)) : gb435 ≠ gb425)); replace BK425 := Aside0.mk (Zg (bq_ BK425.out) hb); clear hb hbox hg; have hnb14 := NB435_424.out; have hnc14 := NB424_435.out; have hnb15 := NB435_425.out; have hnc15 := NB425_435.out; obtain ⟨hcz16_0, hcz16_1, hfz16_0, hfz16_1⟩ := c2_ BK435.out; obtain ⟨Ao17, co17, eo17⟩ := ZN HO434.out; subst eo17))
 go_loopg [23] k (fun kq v23 w' => ∃ (x23_1 : Int) (x436001_1 : List (List Int)) (u436001 : Value), v23 = .int .i64 x23_1 ∧ Aside0 (impl_WithClaim.l0 kq l1 (l1.length : Int) x23_1 a0_0 l0_1 (wrap64 (t431 + 1)) x436001_1 = some (r1, r2, r3)) ∧ Aside0 (kq ≤ k) ∧ Aside0 (Kd.S (Kd.slice 3 (Kd.int .i64)) 31 w' w.heap.size (fun _ => True) u436001 x436001_1) ∧ Aside0 (w'.heap[gb424]? = some (.cells #[.int .i64 a0_0, (.slice A0_1 l0_1.length c0_1)] 27 (0, 0))) ∧ Aside0 (w'.heap[gb425]? = some (.cells #[.int .i64 0, (.slice none 0 0)] 27 (0, 0))) ∧ Aside0 (w'.heap[gb435]? = some (.cells #[.int .i64 (wrap64 (t431 + 1)), u436001] 27 (0, 0))) ∧ Aside0 (Below w.heap.size w w'))
 case atStart => exact ⟨(0), (t432), (.slice Ao17 t432.length co17), sm_, H', ⟨Nat.le_refl _⟩, ⟨by (with_reducible repeat (first | apply Zs | apply Zr | apply Zp)); exact Zt (Zq (p := ⟨gb435, 0, none⟩) (Zq (p := ⟨gb435, 1, none⟩) (Zq (p := ⟨gb435, 0, none⟩) (Zv HO434.out BK435.out (by decide)) (fun _ hk => hk.2) (.int .i64 t431)) (fun _ hk => hk.2) (.slice Ao17 t432.length co17)) (fun _ hk => hk.2) (.int .i64 (wrap64 (t431 + 1)))) (fun _ hk => trivial)⟩, ⟨by (with_reducible repeat (first | refine Ze ?_ _ | refine Zf ?_ | refine Zd ?_ _)); refine ZG ?_ NB424_435.out _; (with_reducible repeat (first | refine Ze ?_ _ | refine Zf ?_ | refine Zd ?_ _)); refine ZG ?_ NB424_435.out _; (with_reducible repeat (first | refine Ze ?_ _ | refine Zf ?_ | refine Zd ?_ _)); refine ZG ?_ NB424_435.out _; (with_reducible repeat (first | refine Ze ?_ _ | refine Zf ?_ | refine Zd ?_ _)); exact BK424.out⟩, ⟨by (with_reducible repeat (first | refine Ze ?_ _ | refine Zf ?_ | refine Zd ?_ _)); refine ZG ?_ NB425_435.out _; (with_reducible repeat (first | refine Ze ?_ _ | refine Zf ?_ | refine Zd ?_ _)); refine ZG ?_ NB425_435.out _; (with_reducible repeat (first | refine Ze ?_ _ | refine Zf ?_ | refine Zd ?_ _)); refine ZG ?_ NB425_435.out _; (with_reducible repeat (first | refine Ze ?_ _ | refine Zf ?_ | refine Zd ?_ _)); exact BK425.out⟩, ⟨by (with_reducible repeat (first | refine Ze ?_ _ | refine Zf ?_ | refine Zd ?_ _)); refine ZB (cs := #[.int .i64 t431, .slice Ao17 t432.length co17]) ?_ 0 _ rfl; (with_reducible repeat (first | refine Ze ?_ _ | refine Zf ?_ | refine Zd ?_ _)); refine ZB (cs := #[.int .i64 t431, .slice none 0 0]) ?_ 1 _ rfl; (with_reducible repeat (first | refine Ze ?_ _ | refine Zf ?_ | refine Zd ?_ _)); refine ZB (cs := #[.int .i64 0, .slice none 0 0]) ?_ 0 _ rfl; (with_reducible repeat (first | refine Ze ?_ _ | refine Zf ?_ | refine Zd ?_ _)); exact BK435.out⟩, ⟨hB_⟩⟩
 case round =>
  clear H'
  try clear c1
  try clear p2
  try clear c4
  try clear p6
  try clear c8
  try clear c9
  try clear c14
  try clear c15
  try clear hcz11_0
  try clear hcz11_1
  try clear hcz16_0
  try clear hcz16_1
  try clear hcz9_0
  try clear hcz9_1
  try clear hfz11_0
  try clear hfz11_1
  try clear hfz16_0
  try clear hfz16_1
  try clear hfz9_0
  try clear hfz9_1
  obtain ⟨x23_1, x436001_1, u436001, rfl, HA, HK1, HO_436001, BK424, BK425, BK435, HB⟩ := hrel
  cases gk with
  | zero => exact absurd HA.out (by simp [impl_WithClaim.l0])
  | succ k1 =>
   have H := HA.out
   clear HA
   simp only [impl_WithClaim.l0] at H
   by_cases c18 : x23_1 < (l1.length : Int)
   rotate_left
   ·rw [if_neg c18] at H
    have c18b0 : decide (x23_1 < (l1.length : Int)) = false := decide_eq_false c18
    clear c18
    obtain ⟨t443, A33, H⟩ := bd_ H
    try dsimp only at H
    by_cases c34 : t443 = true
    ·subst c34
     have H1 : (some ((wrap64 (t431 + 1)), x436001_1, true)) = some (r1, r2, r3) := by rw [if_pos rfl] at H; exact H
     clear H
     have H := H1
     clear H1
     simp only [Option.some.injEq, Prod.mk.injEq] at H
     obtain ⟨rfl, rfl, rfl⟩ := H
     have hnb35 := NB435_424.out
     have hnc35 := NB424_435.out
     have hnb36 := NB435_425.out
     have hnc36 := NB425_435.out
     obtain ⟨hcz37_0, hcz37_1, hfz37_0, hfz37_1⟩ := c2_ BK435.out
     (try clear BK424)
     obtain ⟨Ao38, co38, eo38⟩ := ZN HO_436001.out
     subst eo38
     go_wp2_with (first | ((with_reducible refine Zl (f := 24) rfl ?_); refine ZI (some 38) rfl rfl Try.func24 (by kernel_rfl) rfl #[.agg #[.int .i64 (wrap64 (t431 + 1)), .slice Ao38 x436001_1.length co38]] rfl ar_ ?_; (with_reducible refine (impl_IsGraph.calls k1 (wrap64 (t431 + 1)) _ _ x436001_1 true _ ?side1 ?side2 A33.out).mono ?_); (case side1 => exact sA_ (ZK HO_436001.out).2.2); (case side2 => exact (ZK HO_436001.out).2.1); rintro e w39 ⟨rfl, hb⟩; refine ⟨_, rfl, ?_⟩; replace HO_436001 := Aside0.mk (Zz (rS_ HO_436001.out) hb); replace BK425 := Aside0.mk (Zg (bq_ BK425.out) hb); replace BK435 := Aside0.mk (Zg (bq_ BK435.out) hb); replace HB := Aside0.mk (Zh hB_ hb); (try clear hb); obtain ⟨hcz40_0, hcz40_1, hfz40_0, hfz40_1⟩ := c2_ BK435.out; obtain ⟨hcz41_0, hcz41_1, hfz41_0, hfz41_1⟩ := c2_ BK425.out))
     refine bodyPost_ret (results_ct rfl _ _ gb425 27 #[.int .i64 (wrap64 (t431 + 1)), .slice Ao38 x436001_1.length co38] (0, 0) _ rfl (by (with_reducible repeat (first | refine Ze ?_ _ | refine Zf ?_ | refine Zd ?_ _)); refine ZB (cs := #[.int .i64 (wrap64 (t431 + 1)), .slice none 0 0]) ?_ 1 _ rfl; (with_reducible repeat (first | refine Ze ?_ _ | refine Zf ?_ | refine Zd ?_ _)); refine ZB (cs := #[.int .i64 0, .slice none 0 0]) ?_ 0 _ rfl; (with_reducible repeat (first | refine Ze ?_ _ | refine Zf ?_ | refine Zd ?_ _)); exact BK425.out) Try.underlying27 rfl (by kernel_rfl)) rfl ?_
     exact ⟨_, er_, by (with_reducible repeat (first | apply Zs | apply Zr | apply Zp)); exact Zt (Zq (p := ⟨gb425, 1, none⟩) (Zq (p := ⟨gb425, 0, none⟩) (Zv HO_436001.out BK425.out (by decide)) (fun _ hk => hk.2) (.int .i64 (wrap64 (t431 + 1)))) (fun _ hk => hk.2) (.slice Ao38 x436001_1.length co38)) (fun _ hk => trivial), hB_⟩
    replace c34 := Bool.eq_false_iff.mpr c34
    subst c34
    have H1 : ((impl_cloneGraph.f k1 a0_0 l0_1).bind fun bt444 => (some (bt444.1, bt444.2, false))) = some (r1, r2, r3) := by rw [if_neg (show ¬ (false = true) by decide)] at H; exact H
    clear H
    have H := H1
    clear H1
    obtain ⟨⟨t444, t445⟩, A42, H⟩ := bd_ H
    try dsimp only at H
    simp only [Option.some.injEq, Prod.mk.injEq] at H
    obtain ⟨rfl, rfl, rfl⟩ := H
    have hnb43 := NB435_424.out
    have hnc43 := NB424_435.out
    have hnb44 := NB435_425.out
    have hnc44 := NB425_435.out
    obtain ⟨hcz45_0, hcz45_1, hfz45_0, hfz45_1⟩ := c2_ BK435.out
    (try clear BK435)
    obtain ⟨Ao46, co46, eo46⟩ := ZN HO_436001.out
    subst eo46
    go_wp2_with (first | ((with_reducible refine Zl (f := 24) rfl ?_); refine ZI (some 38) rfl rfl Try.func24 (by kernel_rfl) rfl #[.agg #[.int .i64 (wrap64 (t431 + 1)), .slice Ao46 x436001_1.length co46]] rfl ar_ ?_; (with_reducible refine (impl_IsGraph.calls k1 (wrap64 (t431 + 1)) _ _ x436001_1 false _ ?side1 ?side2 A33.out).mono ?_); (case side1 => exact sA_ (ZK HO_436001.out).2.2); (case side2 => exact (ZK HO_436001.out).2.1); rintro e w47 ⟨rfl, hb⟩; refine ⟨_, rfl, ?_⟩; replace HO_436001 := Aside0.mk (Zz (rS_ HO_436001.out) hb); replace BK424 := Aside0.mk (Zg (bq_ BK424.out) hb); replace BK425 := Aside0.mk (Zg (bq_ BK425.out) hb); replace HB := Aside0.mk (Zh hB_ hb); (try clear hb); have hnb48 := NB424_425.out; have hnc48 := NB425_424.out; obtain ⟨hcz49_0, hcz49_1, hfz49_0, hfz49_1⟩ := c2_ BK424.out; (try clear HO_436001); (try clear BK424)) | ((with_reducible refine Zl (f := 91) rfl ?_); refine ZI (some 41) rfl rfl Try.func91 (by kernel_rfl) rfl #[.agg #[.int .i64 a0_0, .slice A0_1 l0_1.length c0_1]] rfl ar_ ?_; (with_reducible refine (impl_cloneGraph.calls k1 a0_0 _ _ l0_1 t444 t445 _ ?side1 ?side2 A42.out).mono ?_); (case side1 => exact cb_ HR0_1.out); (case side2 => exact HC0_1.out); rintro e w50 ⟨v446, rfl, ho0, hb⟩; refine ⟨_, rfl, ?_⟩; have HO447 := Aside0.mk (Kd.S_lower ho0 (Zm hB_)); replace BK425 := Aside0.mk (Zg (bq_ BK425.out) hb); replace HB := Aside0.mk (Zh hB_ hb); (try clear hb); (try clear ho0); obtain ⟨hcz51_0, hcz51_1, hfz51_0, hfz51_1⟩ := c2_ BK425.out; obtain ⟨Ao52, co52, eo52⟩ := ZN HO447.out; subst eo52))
    refine bodyPost_ret (results_ct rfl _ _ gb425 27 #[.int .i64 t444, .slice Ao52 t445.length co52] (0, 0) _ rfl (by (with_reducible repeat (first | refine Ze ?_ _ | refine Zf ?_ | refine Zd ?_ _)); refine ZB (cs := #[.int .i64 t444, .slice none 0 0]) ?_ 1 _ rfl; (with_reducible repeat (first | refine Ze ?_ _ | refine Zf ?_ | refine Zd ?_ _)); refine ZB (cs := #[.int .i64 0, .slice none 0 0]) ?_ 0 _ rfl; (with_reducible repeat (first | refine Ze ?_ _ | refine Zf ?_ | refine Zd ?_ _)); exact BK425.out) Try.underlying27 rfl (by kernel_rfl)) rfl ?_
    exact ⟨_, er_, by (with_reducible repeat (first | apply Zs | apply Zr | apply Zp)); exact Zt (Zq (p := ⟨gb425, 1, none⟩) (Zq (p := ⟨gb425, 0, none⟩) (Zv HO447.out BK425.out (by decide)) (fun _ hk => hk.2) (.int .i64 t444)) (fun _ hk => hk.2) (.slice Ao52 t445.length co52)) (fun _ hk => trivial), hB_⟩
   rw [if_pos c18] at H
   have c18b0 : decide (x23_1 < (l1.length : Int)) = true := decide_eq_true c18
   clear c18
   by_cases c19 : 0 ≤ x23_1
   rotate_left
   ·rw [if_neg c19] at H
    exact absurd H (by simp)
   rw [if_pos c19] at H
   have c19b0 : decide (0 ≤ x23_1) = true := decide_eq_true c19
   clear c19
   by_cases c20 : x23_1 < (l1.length : Int)
   rotate_left
   ·rw [if_neg c20] at H
    exact absurd H (by simp)
   rw [if_pos c20] at H
   have c20b0 : decide (x23_1 < (l1.length : Int)) = true := decide_eq_true c20
   clear c20
   obtain ⟨y437, hy437⟩ : ∃ y_ : List Int, y_ = (([a0_0, rd l1 x23_1] : List Int)) := ⟨_, rfl⟩
   replace H : (if x436001_1.length < 5864062014805 then (impl_WithClaim.l0 k1 l1 (l1.length : Int) (wrap64 (x23_1 + 1)) a0_0 l0_1 (wrap64 (t431 + 1)) (x436001_1 ++ [y437])) else (none)) = some (r1, r2, r3) := hy_ hy437 H
   have Ny437 := Aside0.mk hy437
   clear hy437
   by_cases c21 : x436001_1.length < 5864062014805
   rotate_left
   ·rw [if_neg c21] at H
    exact absurd H (by simp)
   rw [if_pos c21] at H
   have LMc21 := Aside0.mk c21
   clear c21
   obtain ⟨y440, hy440⟩ : ∃ y_ : List (List Int), y_ = (x436001_1 ++ [y437]) := ⟨_, rfl⟩
   replace H : (impl_WithClaim.l0 k1 l1 (l1.length : Int) (wrap64 (x23_1 + 1)) a0_0 l0_1 (wrap64 (t431 + 1)) y440) = some (r1, r2, r3) := hy_ hy440 H
   have Ny440 := Aside0.mk hy440
   clear hy440
   have H' := Aside0.mk H
   clear H
   have p436 : 0 ≤ (x23_1 : Int) := of_decide_eq_true as_
   have q436 : x23_1 < (l1.length : Int) := of_decide_eq_true as_
   obtain ⟨ad436, e436, hx436_0⟩ := Zx HR1.out x23_1 p436 q436
   cases e436
   replace hx436_0 := (HB.out.cell (World.block_lt_of_cell? w _ hx436_0)).trans hx436_0
   replace p436 := eq_true p436
   replace q436 := eq_true q436
   have hnb22 := NB435_424.out
   have hnc22 := NB424_435.out
   have hnb23 := NB435_425.out
   have hnc23 := NB425_435.out
   obtain ⟨hcz24_0, hcz24_1, hfz24_0, hfz24_1⟩ := c2_ BK435.out
   have hnb25 := NB424_425.out
   have hnc25 := NB425_424.out
   obtain ⟨hcz26_0, hcz26_1, hfz26_0, hfz26_1⟩ := c2_ BK424.out
   go_wp2_with (first | ((with_reducible refine ZA (N := 32) rfl ?_); refine Kd.R_lit (Kd.int .i64) _ 3 ?hg (N := 32) ?hd (xs := ([a0_0, rd l1 x23_1] : List Int)) (inner := [.int .i64 a0_0, .int .i64 (rd l1 x23_1)]) (ok := fun _ => True) (okp := fun _ => True) ?hr ?hp (fun _ hk => hk) trivial (Below.refl _ _) (Nat.le_refl _) (by simp) ?_; (case hd => rfl); (case hg => rfl); (case hr => first | (go_simp; done) | (go_simp; rfl)); (case hp => exact (Reps.one (show Kd.M (Kd.int .i64) _ _ _ a0_0 [.int .i64 a0_0] from rfl) (Reps.one (show Kd.M (Kd.int .i64) _ _ _ (rd l1 x23_1) [.int .i64 (rd l1 x23_1)] from rfl) (Reps.none _ _)))); intro v438 w27 ho28 hb hg_ hnew_; clear hg_ hnew_; (first | rw [← Ny437.out] at ho28 | (simp only [Int.reduceToNat] at ho28; rw [← Ny437.out] at ho28)); replace HO_436001 := Aside0.mk (Kd.S_elder' (rS_ HO_436001.out) (Kd.R_base ho28) hb); have HO439 := Aside0.mk (Kd.R_lower ho28 (Zm hB_)); replace BK424 := Aside0.mk (Zg (bq_ BK424.out) hb); replace BK425 := Aside0.mk (Zg (bq_ BK425.out) hb); replace BK435 := Aside0.mk (Zg (bq_ BK435.out) hb); replace HB := Aside0.mk (Zh hB_ hb); clear hb ho28; obtain ⟨Ao30, co30, eo30⟩ := Kd.R_slice HO439.out; subst eo30) | ((with_reducible refine gate_builtin (b := .append) (xs := #[.tmp 28, .tmp 33]) rfl ?_); at_builtin; refine Kd.S_append (Kd.slice 3 (Kd.int .i64)) (w0 := w) w.heap.size rfl (.tmp 28) (.tmp 33) 22 31 (.slice none 0 0) 24 rfl Try.underlying22 info31 rfl (by decide) (by omega) u436001 x436001_1 y437 [.slice Ao30 y437.length co30] (fun _ => True) (fun k_ => some k_ = (.slice Ao30 y437.length co30 : Value).ownBlock) rfl rfl ?aP (fun k_ hk_ => ((Zw (ok' := fun k_ => ((fun _ => True)) k_ ∧ some k_ ≠ (u436001 : Value).ownBlock) (Kd.R_apart' (HO439.out) (Kd.S_typed HO_436001.out) (by decide)) (fun k_ hk => ⟨trivial, hk.2⟩))).1 k_ hk_.symm) ?aF ?aO ?aB ?aS ?aL ?_; (case aP => exact Kd.M_row (Zw (Kd.R_tight rfl (Zw (ok' := fun k_ => ((fun _ => True)) k_ ∧ some k_ ≠ (u436001 : Value).ownBlock) (Kd.R_apart' (HO439.out) (Kd.S_typed HO_436001.out) (by decide)) (fun k_ hk => ⟨trivial, hk.2⟩))) (fun _ h_ => h_))); (case aB => exact hB_); (case aF => exact (fun _ _ => trivial)); (case aO => exact (by (with_reducible repeat (first | apply Zs | apply Zr | apply Zp)); exact Zt HO_436001.out (fun k_ hk => ⟨trivial, fun e_ => hk.2 e_⟩))); (case aS => exact (Zm hB_)); (case aL => have := LMc21.out; omega); intro v441 w29 ho hb hg hat; rw [← Ny440.out] at ho; have n0_ := Aside0.mk (ZT (bq_ BK424.out) hg (Kd.S_ne HO_436001.out BK424.out (by decide))); have n1_ := Aside0.mk (ZT (bq_ BK425.out) hg (Kd.S_ne HO_436001.out BK425.out (by decide))); have n2_ := Aside0.mk (ZT (bq_ BK435.out) hg (Kd.S_ne HO_436001.out BK435.out (by decide))); have n3_ := Aside0.mk (hb); have n4_ := Aside0.mk (ho); clear BK424; clear BK425; clear BK435; clear HB; clear HO_436001; clear HO439; have BK424 := n0_; have BK425 := n1_; have BK435 := n2_; have HB := n3_; have HO442 := n4_; clear n0_ n1_ n2_ n3_ n4_; clear ho hb hg hat; obtain ⟨Ao31, co31, eo31⟩ := ZN HO442.out; subst eo31; obtain ⟨hcz32_0, hcz32_1, hfz32_0, hfz32_1⟩ := c2_ BK435.out))
   go_roundg k1
   case measure => have := HK1.out; omega
   case rel => exact ⟨(wrap64 (x23_1 + 1)), (y440), (.slice Ao31 y440.length co31), sm_, H', ⟨by have := HK1.out; omega⟩, ⟨by (with_reducible repeat (first | apply Zs | apply Zr | apply Zp)); exact Zt (Zq (p := ⟨gb435, 1, none⟩) (Zv HO442.out BK435.out (by decide)) (fun _ hk => hk.2) (.slice Ao31 y440.length co31)) (fun _ hk => trivial)⟩, ⟨by (with_reducible repeat (first | refine Ze ?_ _ | refine Zf ?_ | refine Zd ?_ _)); refine ZG ?_ NB424_435.out _; (with_reducible repeat (first | refine Ze ?_ _ | refine Zf ?_ | refine Zd ?_ _)); exact BK424.out⟩, ⟨by (with_reducible repeat (first | refine Ze ?_ _ | refine Zf ?_ | refine Zd ?_ _)); refine ZG ?_ NB425_435.out _; (with_reducible repeat (first | refine Ze ?_ _ | refine Zf ?_ | refine Zd ?_ _)); exact BK425.out⟩, ⟨by (with_reducible repeat (first | refine Ze ?_ _ | refine Zf ?_ | refine Zd ?_ _)); refine ZB (cs := #[.int .i64 (wrap64 (t431 + 1)), u436001]) ?_ 1 _ rfl; (with_reducible repeat (first | refine Ze ?_ _ | refine Zf ?_ | refine Zd ?_ _)); exact BK435.out⟩, ⟨hB_⟩⟩

end Go.Proofs.Ytdlobolnajcfnaa.PFnDisputes
