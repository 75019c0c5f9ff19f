-- Written by a program of this session (hooks of mine on the print): Lean checks it.
import Derived.Test.YtkmhkkhlbnhaaaaPFnExactIsCertainx0
import Derived.Test.YtkmhkkhlbnhaaaaPFnExactIsCertainx7
import Derived.Test.YtkmhkkhlbnhaaaaPFnExactIsCertainx8
import Derived.Test.YtkmhkkhlbnhaaaaPFnExactIsCertainx9
namespace Go.Proofs.Ytkmhkkhlbnhaaaa.PFnExactIsCertain
open Go.RowKit Go.Proofs.YtkmhkkhlbnhaaaaW.PrintWords Go.Proofs.YtkmhkkhlbnhaaaaW.PrintLast Go.Proofs.YtkmhkkhlbnhaaaaW.PrintMore
attribute [local go_sem] max2_int min2_int max_two min_two max_three min_three max_four min_four   -- for this text's walks alone
set_option linter.unusedVariables false
set_option linter.unusedSimpArgs false

/-! ### impl_HitBy: function 96 -/
def impl_HitBy.l0 : Nat → List Int → List Int → Int → Int → Int → List (List Int) → Option (List Int)
 | 0, _, _, _, _, _, _ => none
 | k + 1, x5, x9, x10, x11, x350000, x350001 => if x11 < x10 then (if 0 ≤ x11 then (if x11 < (x9.length : Int) then ((impl_VictimsOf.f k x350000 x350001 (rd x9 x11)).bind fun t354 => (if x5.length + t354.length < 17592186044416 then (impl_HitBy.l0 k (x5 ++ t354) x9 x10 (wrap64 (x11 + 1)) x350000 x350001) else (none))) else (none)) else (none)) else ((slices_Sort_int_int.f x5).bind fun t360 => ((slices_Compact_int_int.f t360).bind fun t361 => (some t361)))
def impl_HitBy.f (k : Nat) (a0_0 : Int) (l0_1 : List (List Int)) (l1 : List Int) : Option (List Int) := impl_HitBy.l0 k (([] : List Int)) l1 (l1.length : Int) 0 a0_0 l0_1
theorem impl_HitBy.mono_l : ∀ k, (∀ y0 y1 y2 y3 y4 y5, LeO (impl_HitBy.l0 k y0 y1 y2 y3 y4 y5) (impl_HitBy.l0 (k + 1) y0 y1 y2 y3 y4 y5))
 | 0 => fun _ _ _ _ _ _ r h => by simp [impl_HitBy.l0] at h
 | k + 1 => by
  have ih0 := impl_HitBy.mono_l k
  ·intro y0 y1 y2 y3 y4 y5
   unfold impl_HitBy.l0
   repeat' first
   | (with_reducible exact ih0 _ _ _ _ _ _)
   | (with_reducible exact impl_VictimsOf.mono _ _ _ _)
   | (with_reducible exact Zs _)
   | (with_reducible exact Zg _)
   | (with_reducible refine Zn ?_ ?_)
   | (with_reducible refine Zh ?_ (fun _ => ?_))
   | exact ih0 _ _ _ _ _ _
   | exact impl_VictimsOf.mono _ _ _ _
   | exact Zg _
   | refine Zn ?_ ?_
   | refine Zh ?_ (fun _ => ?_)
theorem impl_HitBy.mono : ∀ a0 a1 a2 k, LeO (impl_HitBy.f k a0 a1 a2) (impl_HitBy.f (k + 1) a0 a1 a2) := by
 intro a0 a1 a2 k
 have ih0 := impl_HitBy.mono_l k
 unfold impl_HitBy.f
 repeat' first
   | (with_reducible exact ih0 _ _ _ _ _ _)
   | (with_reducible exact impl_VictimsOf.mono _ _ _ _)
   | (with_reducible exact Zs _)
   | (with_reducible exact Zg _)
   | (with_reducible refine Zn ?_ ?_)
   | (with_reducible refine Zh ?_ (fun _ => ?_))
   | exact ih0 _ _ _ _ _ _
   | exact impl_VictimsOf.mono _ _ _ _
   | exact Zg _
   | refine Zn ?_ ?_
   | refine Zh ?_ (fun _ => ?_)
set_option maxHeartbeats 8000000 in
set_option maxRecDepth 100000 in
theorem impl_HitBy.calls (k : Nat) (a0_0 : Int) (A0_1 : Option Addr) (c0_1 : Nat) (l0_1 : List (List Int)) (A1 : Option Addr) (c1 : Nat) (l1 : List Int) (r : List Int) (w : World) (hr0_1 : Kd.C (Kd.slice 3 (Kd.int .i64)) w A0_1 l0_1.length l0_1) (hc0_1 : l0_1.length ≤ c0_1) (hr1 : Kd.C (Kd.int .i64) w A1 l1.length l1) (hc1 : l1.length ≤ c1) (h : impl_HitBy.f k a0_0 l0_1 l1 = some r) :
  Calls Try.prog 96 #[.agg #[.int .i64 a0_0, .slice A0_1 l0_1.length c0_1], .slice A1 l1.length c1] w fun e w' => ∃ v0_ : Value, e = .returned (v0_) ∧ Kd.R (Kd.int .i64) 3 w' w.heap.size (fun _ => True) v0_ r ∧ Below w.heap.size w w' := by
 have hu27 := Try.underlying27
 have HR0_1 := Aside0.mk hr0_1
 have HC0_1 := Aside0.mk hc0_1
 clear hr0_1 hc0_1
 have HR1 := Aside0.mk hr1
 have HC1 := Aside0.mk hc1
 clear hr1 hc1
 have HB := Aside0.mk (Below.refl w.heap.size w)
 have H : (impl_HitBy.l0 k (([] : List Int)) l1 (l1.length : Int) 0 a0_0 l0_1) = some r := h
 clear h
 obtain ⟨y350, hy350⟩ : ∃ y_ : List Int, y_ = (([] : List Int)) := ⟨_, rfl⟩
 replace H : (impl_HitBy.l0 k y350 l1 (l1.length : Int) 0 a0_0 l0_1) = some r := hy_ hy350 H
 have Ny350 := Aside0.mk hy350
 clear hy350
 have H' := Aside0.mk H
 clear H
 go_enter Try.func96, Try.ntmps96
 go_wp2_with (first | ((with_reducible refine Zr (N := 2) rfl ?_); refine Zu ?hg (N := 2) ?hd (cs := #[.int .i64 a0_0, .slice A0_1 l0_1.length c0_1]) (t := 27) ?hr ?_; (case hd => rfl); (case hg => rfl); (case hr => first | (go_simp; done) | (go_simp; rfl)); intro gb349 hg w3 hbox hb; have n0_ := Aside0.mk (Zf hb_ hb); have n1_ := Aside0.mk (hbox); have n2_ := Aside0.mk ((hz_ hg : w.heap.size ≤ gb349)); have n3_ := Aside0.mk ((hz_ hg : w.heap.size ≤ gb349)); clear HB; have HB := n0_; have BK349 := n1_; have GW349 := n2_; have GE349 := n3_; clear n0_ n1_ n2_ n3_; clear hb hbox hg) | ((with_reducible refine Zr (N := 8) rfl ?_); refine Kd.R_lit (Kd.int .i64) _ 3 ?hg (N := 8) ?hd (xs := ([] : List Int)) (inner := []) (ok := fun _ => True) (okp := fun _ => True) ?hr ?hp (fun _ hk => hk) trivial (Below.refl _ _) (Nat.le_refl _) (by simp) ?_; (case hd => rfl); (case hg => rfl); (case hr => first | (go_simp; done) | (go_simp; rfl)); (case hp => exact (Reps.none _ _)); intro v351 w4 ho5 hb hg_ hnew_; clear hg_ hnew_; (first | rw [← Ny350.out] at ho5 | (simp only [Int.reduceToNat] at ho5; rw [← Ny350.out] at ho5)); have n0_ := Aside0.mk (Kd.R_lower ho5 (Zi hb_)); have n1_ := Aside0.mk (Zj (g := gb349) (o := .cells #[.int .i64 a0_0, .slice A0_1 l0_1.length c0_1] 27 (0, 0)) (bk_ BK349.out) hb); have n2_ := Aside0.mk (Zf hb_ hb); clear BK349; clear HB; have HO352 := n0_; have BK349 := n1_; have HB := n2_; clear n0_ n1_ n2_; clear hb ho5))
 go_loopg [5, 11] k (fun kq v5 v11 w' => ∃ (x5_1 : List Int) (x11_1 : Int), v11 = .int .i64 x11_1 ∧ Aside0 (impl_HitBy.l0 kq x5_1 l1 (l1.length : Int) x11_1 a0_0 l0_1 = some r) ∧ Aside0 (kq ≤ k) ∧ Aside0 (Kd.R (Kd.int .i64) 3 w' w.heap.size (fun _ => True) v5 x5_1) ∧ Aside0 (w'.heap[gb349]? = some (.cells #[.int .i64 a0_0, (.slice A0_1 l0_1.length c0_1)] 27 (0, 0))) ∧ Aside0 (Below w.heap.size w w'))
 case atStart => exact ⟨(y350), (0), sm_, H', ⟨Nat.le_refl _⟩, ⟨rR_ HO352.out⟩, ⟨bk_ BK349.out⟩, ⟨hb_⟩⟩
 case round =>
  clear H'
  try clear c1
  try clear p2
  obtain ⟨x5_1, x11_1, rfl, HA, HK1, HO_5, BK349, HB⟩ := hrel
  cases gk with
  | zero => exact absurd HA.out (by simp [impl_HitBy.l0])
  | succ k1 =>
   have H := HA.out
   clear HA
   simp only [impl_HitBy.l0] at H
   by_cases c6 : x11_1 < (l1.length : Int)
   ·rw [if_pos c6] at H
    have c6b0 : decide (x11_1 < (l1.length : Int)) = true := decide_eq_true c6
    clear c6
    by_cases c7 : 0 ≤ x11_1
    ·rw [if_pos c7] at H
     have c7b0 : decide (0 ≤ x11_1) = true := decide_eq_true c7
     clear c7
     by_cases c8 : x11_1 < (l1.length : Int)
     ·rw [if_pos c8] at H
      have c8b0 : decide (x11_1 < (l1.length : Int)) = true := decide_eq_true c8
      clear c8
      replace H := Option.bind_eq_some_iff.mp H
      obtain ⟨t354, A90, H⟩ := H
      replace H : (if x5_1.length + t354.length < 17592186044416 then (impl_HitBy.l0 k1 (x5_1 ++ t354) l1 (l1.length : Int) (wrap64 (x11_1 + 1)) a0_0 l0_1) else (none)) = some r := H
      have A9 := Aside0.mk A90
      clear A90
      by_cases c10 : x5_1.length + t354.length < 17592186044416
      ·rw [if_pos c10] at H
       have LMc10 := Aside0.mk c10
       clear c10
       obtain ⟨y357, hy357⟩ : ∃ y_ : List Int, y_ = (x5_1 ++ t354) := ⟨_, rfl⟩
       replace H : (impl_HitBy.l0 k1 y357 l1 (l1.length : Int) (wrap64 (x11_1 + 1)) a0_0 l0_1) = some r := hy_ hy357 H
       have Ny357 := Aside0.mk hy357
       clear hy357
       have H' := Aside0.mk H
       clear H
       have p353 : 0 ≤ (x11_1 : Int) := of_decide_eq_true as_
       have q353 : x11_1 < (l1.length : Int) := of_decide_eq_true as_
       obtain ⟨ad353, e353, hx353_0⟩ := Zo HR1.out x11_1 p353 q353
       cases e353
       replace hx353_0 := (HB.out.cell (World.block_lt_of_cell? w _ hx353_0)).trans hx353_0
       replace p353 := eq_true p353
       replace q353 := eq_true q353
       have hcz11_0 : wr.cell? ⟨gb349, 0, none⟩ = some (.int .i64 a0_0) := (Ze BK349.out 0).trans rfl
       have hcz11_1 : wr.cell? ⟨gb349, 1, none⟩ = some (.slice A0_1 l0_1.length c0_1) := (Ze BK349.out 1).trans rfl
       have hfz11_0 := Zd BK349.out 0
       have hfz11_1 := Zd BK349.out 1
       go_wp2_with (first | ((with_reducible refine Zl (f := 84) rfl ?_); refine Zx (some 18) rfl rfl Try.func84 (by kernel_rfl) rfl #[.agg #[.int .i64 a0_0, .slice A0_1 l0_1.length c0_1], .int .i64 (rd l1 x11_1)] rfl ar_ ?_; (with_reducible refine (impl_VictimsOf.calls k1 a0_0 _ _ l0_1 (rd l1 x11_1) t354 _ ?side1 ?side2 A9.out).mono ?_); (case side1 => exact cb_ HR0_1.out); (case side2 => exact HC0_1.out); rintro e w12 ⟨v355, rfl, ho0, hb⟩; refine ⟨_, rfl, ?_⟩; have n0_ := Aside0.mk (Kd.R_elder' (rR_ HO_5.out) (Kd.R_base ho0) hb); have n1_ := Aside0.mk (Kd.R_lower (Kd.R_new' ho0 (Kd.R_lt (rR_ HO_5.out))) (Zi hb_)); have n2_ := Aside0.mk (Zj (g := gb349) (o := .cells #[.int .i64 a0_0, .slice A0_1 l0_1.length c0_1] 27 (0, 0)) (bk_ BK349.out) hb); have n3_ := Aside0.mk (Zf hb_ hb); clear HO_5; clear BK349; clear HB; have HO_5 := n0_; have HO356 := n1_; have BK349 := n2_; have HB := n3_; clear n0_ n1_ n2_ n3_; (try clear hb); (try clear hb2); (try clear hk); (try clear hi); (try clear ho0); obtain ⟨Ao14, co14, eo14⟩ := Kd.R_slice HO356.out; subst eo14) | ((with_reducible refine gate_builtin (b := .append) (xs := #[.tmp 15, .tmp 18]) rfl ?_); at_builtin; refine Kd.R_append_rows (Kd.int .i64) (w0 := w) w.heap.size rfl (.tmp 15) (.tmp 18) 38 3 (.int .i64 0) 8 rfl Try.underlying38 info3 rfl (by decide) (by omega) u5 x5_1 t354 _ _ _ (fun k_ => some k_ ≠ (.slice Ao14 t354.length co14 : Value).ownBlock) (fun _ => False) rfl rfl ?aO ?aR (fun _ _ h => h) (fun _ h => h.elim) ?aF ?aB ?aS ?aL ?_; (case aR => repeat (first | exact (Zw HO356.out).2.2 | (with_reducible refine Zv ?_ _) | (with_reducible refine Zt ?_ _) | (with_reducible refine Zy ?_))); (case aB => exact hb_); (case aF => exact (fun k_ hk => Kd.fresh' (Kd.R_lt (rR_ HO356.out)) k_ hk)); (case aO => exact (by (with_reducible repeat (first | apply Kd.R_alloc | apply Kd.R_drewN | apply Kd.R_drew)); exact Kd.R_mono HO_5.out (fun _ hk => hk.2))); (case aS => exact (Zi hb_)); (case aL => have := LMc10.out; omega); intro v358 w13 ho hb hg hat; rw [← Ny357.out] at ho; have n0_ := Aside0.mk (blk_grown (g := gb349) (o := .cells #[.int .i64 a0_0, .slice A0_1 l0_1.length c0_1] 27 (0, 0)) (bk_ BK349.out) hg (Kd.R_ne HO_5.out BK349.out (by decide))); have n1_ := Aside0.mk (Kd.R_after (ok := (fun _ => True)) (rR_ HO356.out) hg hat); have n2_ := Aside0.mk (hb); have n3_ := Aside0.mk (ho); clear BK349; clear HO356; clear HB; clear HO_5; have BK349 := n0_; have HO356 := n1_; have HB := n2_; have HO359 := n3_; clear n0_ n1_ n2_ n3_; clear ho hb hg hat))
       go_roundg k1
       case measure => have := HK1.out; omega
       case rel => exact ⟨(y357), (wrap64 (x11_1 + 1)), sm_, H', ⟨by have := HK1.out; omega⟩, ⟨by (with_reducible repeat (first | apply Kd.R_alloc | apply Kd.R_drewN | apply Kd.R_drew)); exact Kd.R_mono HO359.out (fun _ hk => trivial)⟩, ⟨bk_ BK349.out⟩, ⟨hb_⟩⟩
      ·rw [if_neg c10] at H
       exact absurd H (by simp)
     ·rw [if_neg c8] at H
      exact absurd H (by simp)
    ·rw [if_neg c7] at H
     exact absurd H (by simp)
   ·rw [if_neg c6] at H
    have c6b0 : decide (x11_1 < (l1.length : Int)) = false := decide_eq_false c6
    clear c6
    replace H := Option.bind_eq_some_iff.mp H
    obtain ⟨t360, A150, H⟩ := H
    replace H : ((slices_Compact_int_int.f t360).bind fun t361 => (some t361)) = some r := H
    have A15 := Aside0.mk A150
    clear A150
    replace H := Option.bind_eq_some_iff.mp H
    obtain ⟨t361, A160, H⟩ := H
    replace H : (some t361) = some r := H
    have A16 := Aside0.mk A160
    clear A160
    obtain rfl := Option.some.inj H
    obtain ⟨Ao17, co17, eo17⟩ := Kd.R_slice HO_5.out
    subst eo17
    go_wp2_with (first | ((with_reducible refine Zl (f := 109) rfl ?_); refine Zx (some 22) rfl rfl Try.func109 (by kernel_rfl) rfl #[.slice Ao17 x5_1.length co17] rfl ar_ ?_; (with_reducible refine (slices_Sort_int_int.calls (fun k_ => some k_ = (.slice Ao17 x5_1.length co17 : Value).ownBlock) (.slice Ao17 x5_1.length co17) x5_1 t360 w _ ?side1 ?side2 A15.out).mono ?_); (case side1 => repeat (first | (with_reducible first | exact HB.out | apply below_alloc | apply pw_below_drewN | apply below_drew1 | refine below_set ?_ GE349.out) | exact HB.out)); (case side2 => exact Kd.R_tight rfl HO_5.out); rintro e w18 ⟨rfl, hy0, hb, hkp⟩; refine ⟨_, rfl, ?_⟩; have n0_ := Aside0.mk (Kd.R_reok rfl hy0 (fun k_ e_ => HO_5.out.1 k_ e_)); have n1_ := Aside0.mk (blk_kept (bk_ BK349.out) hkp (fun hs_ => (fun e_ => (Kd.R_ne HO_5.out BK349.out (by decide)) e_) hs_)); have n2_ := Aside0.mk (hb); clear HO_5; clear BK349; clear HB; have HO_5 := n0_; have BK349 := n1_; have HB := n2_; clear n0_ n1_ n2_; (try clear hb); (try clear hkp); (try clear hy0)) | ((with_reducible refine Zl (f := 110) rfl ?_); refine Zx (some 24) rfl rfl Try.func110 (by kernel_rfl) rfl #[.slice Ao17 x5_1.length co17] rfl ar_ ?_; (with_reducible refine (slices_Compact_int_int.calls (fun k_ => some k_ = (.slice Ao17 x5_1.length co17 : Value).ownBlock) (.slice Ao17 x5_1.length co17) t360 t361 w _ ?side1 ?side2 A16.out).mono ?_); (case side1 => repeat (first | (with_reducible first | exact HB.out | apply below_alloc | apply pw_below_drewN | apply below_drew1 | refine below_set ?_ GE349.out) | exact HB.out)); (case side2 => exact Kd.R_tight rfl HO_5.out); rintro e w19 ⟨v362, rfl, ho0, hb, hkp⟩; refine ⟨_, rfl, ?_⟩; have n0_ := Aside0.mk (blk_kept (bk_ BK349.out) hkp (fun hs_ => (fun e_ => (Kd.R_ne HO_5.out BK349.out (by decide)) e_) hs_)); have n1_ := Aside0.mk (Kd.R_mono (ok' := fun k_ => True) ho0 (fun k_ hk_ => trivial)); have n2_ := Aside0.mk (hb); clear BK349; clear HB; clear HO_5; have BK349 := n0_; have HO363 := n1_; have HB := n2_; clear n0_ n1_ n2_; (try clear hb); (try clear hkp); (try clear ho0)))
    go_ret
    exact ⟨_, er_, rR_ HO363.out, hb_⟩

/-! ### impl_IsFree: function 88 -/
def impl_IsFree.l0 : Nat → List Int → List Int → Int → Int → Option (Bool)
 | 0, _, _, _, _ => none
 | k + 1, x1, x13, x14, x15 => if x15 < x14 then (if 0 ≤ x15 then (if x15 < (x13.length : Int) then ((slices_Contains_int_int.f k x1 (rd x13 x15)).bind fun t370 => (if t370 = true then (some false) else (impl_IsFree.l0 k x1 x13 x14 (wrap64 (x15 + 1))))) else (none)) else (none)) else (some true)
def impl_IsFree.f (k : Nat) (a0_0 : Int) (l0_1 : List (List Int)) (l1 : List Int) : Option (Bool) := (impl_IsSet.f k a0_0 l0_1 l1).bind fun t365 => (if t365 = true then ((impl_HitBy.f k a0_0 l0_1 l1).bind fun t366 => (impl_IsFree.l0 k l1 t366 (t366.length : Int) 0)) else (some false))
theorem impl_IsFree.mono_l : ∀ k, (∀ y0 y1 y2 y3, LeO (impl_IsFree.l0 k y0 y1 y2 y3) (impl_IsFree.l0 (k + 1) y0 y1 y2 y3))
 | 0 => fun _ _ _ _ r h => by simp [impl_IsFree.l0] at h
 | k + 1 => by
  have ih0 := impl_IsFree.mono_l k
  ·intro y0 y1 y2 y3
   unfold impl_IsFree.l0
   repeat' first
   | (with_reducible exact ih0 _ _ _ _)
   | (with_reducible exact impl_HitBy.mono _ _ _ _)
   | (with_reducible exact impl_IsSet.mono _ _ _ _)
   | (with_reducible exact slices_Contains_int_int.mono _ _ _)
   | (with_reducible exact Zs _)
   | (with_reducible exact Zg _)
   | (with_reducible refine Zn ?_ ?_)
   | (with_reducible refine Zh ?_ (fun _ => ?_))
   | exact ih0 _ _ _ _
   | exact impl_HitBy.mono _ _ _ _
   | exact impl_IsSet.mono _ _ _ _
   | exact slices_Contains_int_int.mono _ _ _
   | exact Zg _
   | refine Zn ?_ ?_
   | refine Zh ?_ (fun _ => ?_)
theorem impl_IsFree.mono : ∀ a0 a1 a2 k, LeO (impl_IsFree.f k a0 a1 a2) (impl_IsFree.f (k + 1) a0 a1 a2) := by
 intro a0 a1 a2 k
 have ih0 := impl_IsFree.mono_l k
 unfold impl_IsFree.f
 repeat' first
   | (with_reducible exact ih0 _ _ _ _)
   | (with_reducible exact impl_HitBy.mono _ _ _ _)
   | (with_reducible exact impl_IsSet.mono _ _ _ _)
   | (with_reducible exact slices_Contains_int_int.mono _ _ _)
   | (with_reducible exact Zs _)
   | (with_reducible exact Zg _)
   | (with_reducible refine Zn ?_ ?_)
   | (with_reducible refine Zh ?_ (fun _ => ?_))
   | exact ih0 _ _ _ _
   | exact impl_HitBy.mono _ _ _ _
   | exact impl_IsSet.mono _ _ _ _
   | exact slices_Contains_int_int.mono _ _ _
   | exact Zg _
   | refine Zn ?_ ?_
   | refine Zh ?_ (fun _ => ?_)
set_option maxHeartbeats 8000000 in
set_option maxRecDepth 100000 in
theorem impl_IsFree.calls (k : Nat) (a0_0 : Int) (A0_1 : Option Addr) (c0_1 : Nat) (l0_1 : List (List Int)) (A1 : Option Addr) (c1 : Nat) (l1 : List Int) (r : Bool) (w : World) (hr0_1 : Kd.C (Kd.slice 3 (Kd.int .i64)) w A0_1 l0_1.length l0_1) (hc0_1 : l0_1.length ≤ c0_1) (hr1 : Kd.C (Kd.int .i64) w A1 l1.length l1) (hc1 : l1.length ≤ c1) (h : impl_IsFree.f k a0_0 l0_1 l1 = some r) :
  Calls Try.prog 88 #[.agg #[.int .i64 a0_0, .slice A0_1 l0_1.length c0_1], .slice A1 l1.length c1] w fun e w' => e = .returned (.bool r) ∧ Below w.heap.size w w' := by
 have hu27 := Try.underlying27
 have HR0_1 := Aside0.mk hr0_1
 have HC0_1 := Aside0.mk hc0_1
 clear hr0_1 hc0_1
 have HR1 := Aside0.mk hr1
 have HC1 := Aside0.mk hc1
 clear hr1 hc1
 have HB := Aside0.mk (Below.refl w.heap.size w)
 have H : ((impl_IsSet.f k a0_0 l0_1 l1).bind fun t365 => (if t365 = true then ((impl_HitBy.f k a0_0 l0_1 l1).bind fun t366 => (impl_IsFree.l0 k l1 t366 (t366.length : Int) 0)) else (some false))) = some r := h
 clear h
 replace H := Option.bind_eq_some_iff.mp H
 obtain ⟨t365, A30, H⟩ := H
 replace H : (if t365 = true then ((impl_HitBy.f k a0_0 l0_1 l1).bind fun t366 => (impl_IsFree.l0 k l1 t366 (t366.length : Int) 0)) else (some false)) = some r := H
 have A3 := Aside0.mk A30
 clear A30
 by_cases c4 : t365 = true
 ·subst c4
  have H1 : ((impl_HitBy.f k a0_0 l0_1 l1).bind fun t366 => (impl_IsFree.l0 k l1 t366 (t366.length : Int) 0)) = some r := by rw [if_pos rfl] at H; exact H
  clear H
  have H := H1
  clear H1
  replace H := Option.bind_eq_some_iff.mp H
  obtain ⟨t366, A50, H⟩ := H
  replace H : (impl_IsFree.l0 k l1 t366 (t366.length : Int) 0) = some r := H
  have A5 := Aside0.mk A50
  clear A50
  have H' := Aside0.mk H
  clear H
  go_enter Try.func88, Try.ntmps88
  go_wp2_with (first | ((with_reducible refine Zr (N := 2) rfl ?_); refine Zu ?hg (N := 2) ?hd (cs := #[.int .i64 a0_0, .slice A0_1 l0_1.length c0_1]) (t := 27) ?hr ?_; (case hd => rfl); (case hg => rfl); (case hr => first | (go_simp; done) | (go_simp; rfl)); intro gb364 hg w6 hbox hb; have n0_ := Aside0.mk (Zf hb_ hb); have n1_ := Aside0.mk (hbox); have n2_ := Aside0.mk ((hz_ hg : w.heap.size ≤ gb364)); have n3_ := Aside0.mk ((hz_ hg : w.heap.size ≤ gb364)); clear HB; have HB := n0_; have BK364 := n1_; have GW364 := n2_; have GE364 := n3_; clear n0_ n1_ n2_ n3_; clear hb hbox hg; have hcz7_0 : w6.cell? ⟨gb364, 0, none⟩ = some (.int .i64 a0_0) := (Ze BK364.out 0).trans rfl; have hcz7_1 : w6.cell? ⟨gb364, 1, none⟩ = some (.slice A0_1 l0_1.length c0_1) := (Ze BK364.out 1).trans rfl; have hfz7_0 := Zd BK364.out 0; have hfz7_1 := Zd BK364.out 1) | ((with_reducible refine Zl (f := 70) rfl ?_); refine Zx (some 9) rfl rfl Try.func70 (by kernel_rfl) rfl #[.agg #[.int .i64 a0_0, .slice A0_1 l0_1.length c0_1], .slice A1 l1.length c1] rfl ar_ ?_; (with_reducible refine (impl_IsSet.calls k a0_0 _ _ l0_1 _ _ l1 true _ ?side1 ?side2 ?side3 ?side4 A3.out).mono ?_); (case side1 => exact cb_ HR0_1.out); (case side2 => exact HC0_1.out); (case side3 => exact cb_ HR1.out); (case side4 => exact HC1.out); rintro e w8 ⟨rfl, hb⟩; refine ⟨_, rfl, ?_⟩; have n0_ := Aside0.mk (Zj (g := gb364) (o := .cells #[.int .i64 a0_0, .slice A0_1 l0_1.length c0_1] 27 (0, 0)) (bk_ BK364.out) hb); have n1_ := Aside0.mk (Zf hb_ hb); clear BK364; clear HB; have BK364 := n0_; have HB := n1_; clear n0_ n1_; (try clear hb); (try clear hb2); (try clear hk); (try clear hi); have hcz9_0 : w8.cell? ⟨gb364, 0, none⟩ = some (.int .i64 a0_0) := (Ze BK364.out 0).trans rfl; have hcz9_1 : w8.cell? ⟨gb364, 1, none⟩ = some (.slice A0_1 l0_1.length c0_1) := (Ze BK364.out 1).trans rfl; have hfz9_0 := Zd BK364.out 0; have hfz9_1 := Zd BK364.out 1) | ((with_reducible refine Zl (f := 96) rfl ?_); refine Zx (some 13) rfl rfl Try.func96 (by kernel_rfl) rfl #[.agg #[.int .i64 a0_0, .slice A0_1 l0_1.length c0_1], .slice A1 l1.length c1] rfl ar_ ?_; (with_reducible refine (impl_HitBy.calls k a0_0 _ _ l0_1 _ _ l1 t366 _ ?side1 ?side2 ?side3 ?side4 A5.out).mono ?_); (case side1 => exact cb_ HR0_1.out); (case side2 => exact HC0_1.out); (case side3 => exact cb_ HR1.out); (case side4 => exact HC1.out); rintro e w10 ⟨v367, rfl, ho0, hb⟩; refine ⟨_, rfl, ?_⟩; have n0_ := Aside0.mk (Kd.R_lower ho0 (Zi hb_)); have n1_ := Aside0.mk (Zj (g := gb364) (o := .cells #[.int .i64 a0_0, .slice A0_1 l0_1.length c0_1] 27 (0, 0)) (bk_ BK364.out) hb); have n2_ := Aside0.mk (Zf hb_ hb); clear BK364; clear HB; have HO368 := n0_; have BK364 := n1_; have HB := n2_; clear n0_ n1_ n2_; (try clear hb); (try clear hb2); (try clear hk); (try clear hi); (try clear ho0); obtain ⟨Ao11, co11, eo11⟩ := Kd.R_slice HO368.out; subst eo11))
  go_loopg [15] k (fun kq v15 w' => ∃ (x15_1 : Int), v15 = .int .i64 x15_1 ∧ Aside0 (impl_IsFree.l0 kq l1 t366 (t366.length : Int) x15_1 = some r) ∧ Aside0 (kq ≤ k) ∧ Aside0 (Kd.R (Kd.int .i64) 3 w' w.heap.size (fun _ => True) (.slice Ao11 t366.length co11) t366) ∧ Aside0 (w'.heap[gb364]? = some (.cells #[.int .i64 a0_0, (.slice A0_1 l0_1.length c0_1)] 27 (0, 0))) ∧ Aside0 (Below w.heap.size w w'))
  case atStart => exact ⟨(0), sm_, H', ⟨Nat.le_refl _⟩, ⟨rR_ HO368.out⟩, ⟨bk_ BK364.out⟩, ⟨hb_⟩⟩
  case round =>
   clear H'
   try clear c1
   try clear p2
   try clear c4
   try clear c7
   try clear c8
   try clear c9
   try clear hcz7_0
   try clear hcz7_1
   try clear hcz9_0
   try clear hcz9_1
   try clear hfz7_0
   try clear hfz7_1
   try clear hfz9_0
   try clear hfz9_1
   obtain ⟨x15_1, rfl, HA, HK1, HO_13, BK364, HB⟩ := hrel
   cases gk with
   | zero => exact absurd HA.out (by simp [impl_IsFree.l0])
   | succ k1 =>
    have H := HA.out
    clear HA
    simp only [impl_IsFree.l0] at H
    by_cases c12 : x15_1 < (t366.length : Int)
    ·rw [if_pos c12] at H
     have c12b0 : decide (x15_1 < (t366.length : Int)) = true := decide_eq_true c12
     clear c12
     by_cases c13 : 0 ≤ x15_1
     ·rw [if_pos c13] at H
      have c13b0 : decide (0 ≤ x15_1) = true := decide_eq_true c13
      clear c13
      by_cases c14 : x15_1 < (t366.length : Int)
      ·rw [if_pos c14] at H
       have c14b0 : decide (x15_1 < (t366.length : Int)) = true := decide_eq_true c14
       clear c14
       replace H := Option.bind_eq_some_iff.mp H
       obtain ⟨t370, A150, H⟩ := H
       replace H : (if t370 = true then (some false) else (impl_IsFree.l0 k1 l1 t366 (t366.length : Int) (wrap64 (x15_1 + 1)))) = some r := H
       have A15 := Aside0.mk A150
       clear A150
       by_cases c16 : t370 = true
       ·subst c16
        have H1 : (some false) = some r := by rw [if_pos rfl] at H; exact H
        clear H
        have H := H1
        clear H1
        obtain rfl := Option.some.inj H
        have p369 : 0 ≤ (x15_1 : Int) := of_decide_eq_true as_
        have q369 : x15_1 < (t366.length : Int) := of_decide_eq_true as_
        obtain ⟨ad369, e369, hx369_0⟩ := Zo (Zw HO_13.out).2.2 x15_1 p369 q369
        cases e369
        replace p369 := eq_true p369
        replace q369 := eq_true q369
        go_wp2_with (first | ((with_reducible refine Zl (f := 49) rfl ?_); refine Zx (some 21) rfl rfl Try.func49 (by kernel_rfl) rfl #[.slice A1 l1.length c1, .int .i64 (rd t366 x15_1)] rfl ar_ ?_; (with_reducible refine (slices_Contains_int_int.calls k1 _ _ l1 (rd t366 x15_1) true _ ?side1 ?side2 A15.out).mono ?_); (case side1 => exact cb_ HR1.out); (case side2 => exact HC1.out); rintro e w' ⟨rfl, ⟨nd, rfl⟩⟩; refine ⟨_, rfl, ?_⟩))
        go_ret
        exact ⟨er_, hb_⟩
       ·replace c16 := Bool.eq_false_iff.mpr c16
        subst c16
        have H1 : (impl_IsFree.l0 k1 l1 t366 (t366.length : Int) (wrap64 (x15_1 + 1))) = some r := by rw [if_neg (show ¬ (false = true) by decide)] at H; exact H
        clear H
        have H := H1
        clear H1
        have H' := Aside0.mk H
        clear H
        have p369 : 0 ≤ (x15_1 : Int) := of_decide_eq_true as_
        have q369 : x15_1 < (t366.length : Int) := of_decide_eq_true as_
        obtain ⟨ad369, e369, hx369_0⟩ := Zo (Zw HO_13.out).2.2 x15_1 p369 q369
        cases e369
        replace p369 := eq_true p369
        replace q369 := eq_true q369
        go_wp2_with (first | ((with_reducible refine Zl (f := 49) rfl ?_); refine Zx (some 21) rfl rfl Try.func49 (by kernel_rfl) rfl #[.slice A1 l1.length c1, .int .i64 (rd t366 x15_1)] rfl ar_ ?_; (with_reducible refine (slices_Contains_int_int.calls k1 _ _ l1 (rd t366 x15_1) false _ ?side1 ?side2 A15.out).mono ?_); (case side1 => exact cb_ HR1.out); (case side2 => exact HC1.out); rintro e w' ⟨rfl, ⟨nd, rfl⟩⟩; refine ⟨_, rfl, ?_⟩))
        go_roundg k1
        case measure => have := HK1.out; omega
        case rel => exact ⟨(wrap64 (x15_1 + 1)), sm_, H', ⟨by have := HK1.out; omega⟩, ⟨rR_ HO_13.out⟩, ⟨bk_ BK364.out⟩, ⟨hb_⟩⟩
      ·rw [if_neg c14] at H
       exact absurd H (by simp)
     ·rw [if_neg c13] at H
      exact absurd H (by simp)
    ·rw [if_neg c12] at H
     have c12b0 : decide (x15_1 < (t366.length : Int)) = false := decide_eq_false c12
     clear c12
     obtain rfl := Option.some.inj H
     go_wp2
     go_ret
     exact ⟨er_, hb_⟩
 ·replace c4 := Bool.eq_false_iff.mpr c4
  subst c4
  have H1 : (some false) = some r := by rw [if_neg (show ¬ (false = true) by decide)] at H; exact H
  clear H
  have H := H1
  clear H1
  obtain rfl := Option.some.inj H
  go_enter Try.func88, Try.ntmps88
  go_wp2_with (first | ((with_reducible refine Zr (N := 2) rfl ?_); refine Zu ?hg (N := 2) ?hd (cs := #[.int .i64 a0_0, .slice A0_1 l0_1.length c0_1]) (t := 27) ?hr ?_; (case hd => rfl); (case hg => rfl); (case hr => first | (go_simp; done) | (go_simp; rfl)); intro gb364 hg w17 hbox hb; have n0_ := Aside0.mk (Zf hb_ hb); have n1_ := Aside0.mk (hbox); have n2_ := Aside0.mk ((hz_ hg : w.heap.size ≤ gb364)); have n3_ := Aside0.mk ((hz_ hg : w.heap.size ≤ gb364)); clear HB; have HB := n0_; have BK364 := n1_; have GW364 := n2_; have GE364 := n3_; clear n0_ n1_ n2_ n3_; clear hb hbox hg; have hcz18_0 : w17.cell? ⟨gb364, 0, none⟩ = some (.int .i64 a0_0) := (Ze BK364.out 0).trans rfl; have hcz18_1 : w17.cell? ⟨gb364, 1, none⟩ = some (.slice A0_1 l0_1.length c0_1) := (Ze BK364.out 1).trans rfl; have hfz18_0 := Zd BK364.out 0; have hfz18_1 := Zd BK364.out 1) | ((with_reducible refine Zl (f := 70) rfl ?_); refine Zx (some 9) rfl rfl Try.func70 (by kernel_rfl) rfl #[.agg #[.int .i64 a0_0, .slice A0_1 l0_1.length c0_1], .slice A1 l1.length c1] rfl ar_ ?_; (with_reducible refine (impl_IsSet.calls k a0_0 _ _ l0_1 _ _ l1 false _ ?side1 ?side2 ?side3 ?side4 A3.out).mono ?_); (case side1 => exact cb_ HR0_1.out); (case side2 => exact HC0_1.out); (case side3 => exact cb_ HR1.out); (case side4 => exact HC1.out); rintro e w19 ⟨rfl, hb⟩; refine ⟨_, rfl, ?_⟩; have n0_ := Aside0.mk (Zj (g := gb364) (o := .cells #[.int .i64 a0_0, .slice A0_1 l0_1.length c0_1] 27 (0, 0)) (bk_ BK364.out) hb); have n1_ := Aside0.mk (Zf hb_ hb); clear BK364; clear HB; have BK364 := n0_; have HB := n1_; clear n0_ n1_; (try clear hb); (try clear hb2); (try clear hk); (try clear hi)))
  go_ret
  exact ⟨er_, hb_⟩

/-! ### impl_AttackersOf: function 67 -/
def impl_AttackersOf.l0 : Nat → Int → List Int → List (List Int) → Int → Int → Option (List Int)
 | 0, _, _, _, _, _ => none
 | k + 1, x1, x5, x14, x15, x16 => if x16 < x15 then (if 0 ≤ x16 then (if x16 < (x14.length : Int) then (if 1 < ((rd_L1 x14 x16).length : Int) then (if (rd (rd_L1 x14 x16) 1) = x1 then (if 0 < ((rd_L1 x14 x16).length : Int) then (if x5.length < 17592186044416 then (impl_AttackersOf.l0 k x1 (x5 ++ [rd (rd_L1 x14 x16) 0]) x14 x15 (wrap64 (x16 + 1))) else (none)) else (none)) else (impl_AttackersOf.l0 k x1 x5 x14 x15 (wrap64 (x16 + 1)))) else (none)) else (none)) else (none)) else (some x5)
def impl_AttackersOf.f (k : Nat) (a0_0 : Int) (l0_1 : List (List Int)) (a1 : Int) : Option (List Int) := (some (([] : List Int) : List Int)).bind fun y372 => ((impl_IsGraph.f k a0_0 l0_1).bind fun t375 => (if t375 = true then (impl_AttackersOf.l0 k a1 y372 l0_1 (l0_1.length : Int) 0) else (some y372)))
theorem impl_AttackersOf.mono_l : ∀ k, (∀ y0 y1 y2 y3 y4, LeO (impl_AttackersOf.l0 k y0 y1 y2 y3 y4) (impl_AttackersOf.l0 (k + 1) y0 y1 y2 y3 y4))
 | 0 => fun _ _ _ _ _ r h => by simp [impl_AttackersOf.l0] at h
 | k + 1 => by
  have ih0 := impl_AttackersOf.mono_l k
  ·intro y0 y1 y2 y3 y4
   unfold impl_AttackersOf.l0
   repeat' first
   | (with_reducible exact ih0 _ _ _ _ _)
   | (with_reducible exact impl_IsGraph.mono _ _ _)
   | (with_reducible exact Zs _)
   | (with_reducible exact Zg _)
   | (with_reducible refine Zn ?_ ?_)
   | (with_reducible refine Zh ?_ (fun _ => ?_))
   | exact ih0 _ _ _ _ _
   | exact impl_IsGraph.mono _ _ _
   | exact Zg _
   | refine Zn ?_ ?_
   | refine Zh ?_ (fun _ => ?_)
theorem impl_AttackersOf.mono : ∀ a0 a1 a2 k, LeO (impl_AttackersOf.f k a0 a1 a2) (impl_AttackersOf.f (k + 1) a0 a1 a2) := by
 intro a0 a1 a2 k
 have ih0 := impl_AttackersOf.mono_l k
 unfold impl_AttackersOf.f
 repeat' first
   | (with_reducible exact ih0 _ _ _ _ _)
   | (with_reducible exact impl_IsGraph.mono _ _ _)
   | (with_reducible exact Zs _)
   | (with_reducible exact Zg _)
   | (with_reducible refine Zn ?_ ?_)
   | (with_reducible refine Zh ?_ (fun _ => ?_))
   | exact ih0 _ _ _ _ _
   | exact impl_IsGraph.mono _ _ _
   | exact Zg _
   | refine Zn ?_ ?_
   | refine Zh ?_ (fun _ => ?_)
set_option maxHeartbeats 8000000 in
set_option maxRecDepth 100000 in
theorem impl_AttackersOf.calls (k : Nat) (a0_0 : Int) (A0_1 : Option Addr) (c0_1 : Nat) (l0_1 : List (List Int)) (a1 : Int) (r : List Int) (w : World) (hr0_1 : Kd.C (Kd.slice 3 (Kd.int .i64)) w A0_1 l0_1.length l0_1) (hc0_1 : l0_1.length ≤ c0_1) (h : impl_AttackersOf.f k a0_0 l0_1 a1 = some r) :
  Calls Try.prog 67 #[.agg #[.int .i64 a0_0, .slice A0_1 l0_1.length c0_1], .int .i64 a1] w fun e w' => ∃ v0_ : Value, e = .returned (v0_) ∧ Kd.R (Kd.int .i64) 3 w' w.heap.size (fun _ => True) v0_ r ∧ Below w.heap.size w w' := by
 have hu27 := Try.underlying27
 have HR0_1 := Aside0.mk hr0_1
 have HC0_1 := Aside0.mk hc0_1
 clear hr0_1 hc0_1
 have HB := Aside0.mk (Below.refl w.heap.size w)
 have H : ((some (([] : List Int) : List Int)).bind fun y372 => ((impl_IsGraph.f k a0_0 l0_1).bind fun t375 => (if t375 = true then (impl_AttackersOf.l0 k a1 y372 l0_1 (l0_1.length : Int) 0) else (some y372)))) = some r := h
 clear h
 obtain ⟨y372, hy372⟩ : ∃ y_ : List Int, y_ = (([] : List Int)) := ⟨_, rfl⟩
 replace H : ((impl_IsGraph.f k a0_0 l0_1).bind fun t375 => (if t375 = true then (impl_AttackersOf.l0 k a1 y372 l0_1 (l0_1.length : Int) 0) else (some y372))) = some r := hy_ hy372 H
 have Ny372 := Aside0.mk hy372
 clear hy372
 replace H := Option.bind_eq_some_iff.mp H
 obtain ⟨t375, A30, H⟩ := H
 replace H : (if t375 = true then (impl_AttackersOf.l0 k a1 y372 l0_1 (l0_1.length : Int) 0) else (some y372)) = some r := H
 have A3 := Aside0.mk A30
 clear A30
 by_cases c4 : t375 = true
 ·subst c4
  have H1 : (impl_AttackersOf.l0 k a1 y372 l0_1 (l0_1.length : Int) 0) = some r := by rw [if_pos rfl] at H; exact H
  clear H
  have H := H1
  clear H1
  have H' := Aside0.mk H
  clear H
  go_enter Try.func67, Try.ntmps67
  go_wp2_with (first | ((with_reducible refine Zr (N := 2) rfl ?_); refine Zu ?hg (N := 2) ?hd (cs := #[.int .i64 a0_0, .slice A0_1 l0_1.length c0_1]) (t := 27) ?hr ?_; (case hd => rfl); (case hg => rfl); (case hr => first | (go_simp; done) | (go_simp; rfl)); intro gb371 hg w5 hbox hb; have n0_ := Aside0.mk (Zf hb_ hb); have n1_ := Aside0.mk (hbox); have n2_ := Aside0.mk ((hz_ hg : w.heap.size ≤ gb371)); have n3_ := Aside0.mk ((hz_ hg : w.heap.size ≤ gb371)); clear HB; have HB := n0_; have BK371 := n1_; have GW371 := n2_; have GE371 := n3_; clear n0_ n1_ n2_ n3_; clear hb hbox hg) | ((with_reducible refine Zr (N := 8) rfl ?_); refine Kd.R_lit (Kd.int .i64) _ 3 ?hg (N := 8) ?hd (xs := ([] : List Int)) (inner := []) (ok := fun _ => True) (okp := fun _ => True) ?hr ?hp (fun _ hk => hk) trivial (Below.refl _ _) (Nat.le_refl _) (by simp) ?_; (case hd => rfl); (case hg => rfl); (case hr => first | (go_simp; done) | (go_simp; rfl)); (case hp => exact (Reps.none _ _)); intro v373 w6 ho7 hb hg_ hnew_; clear hg_ hnew_; (first | rw [← Ny372.out] at ho7 | (simp only [Int.reduceToNat] at ho7; rw [← Ny372.out] at ho7)); have n0_ := Aside0.mk (Kd.R_lower ho7 (Zi hb_)); have n1_ := Aside0.mk (Zj (g := gb371) (o := .cells #[.int .i64 a0_0, .slice A0_1 l0_1.length c0_1] 27 (0, 0)) (bk_ BK371.out) hb); have n2_ := Aside0.mk (Zf hb_ hb); clear BK371; clear HB; have HO374 := n0_; have BK371 := n1_; have HB := n2_; clear n0_ n1_ n2_; clear hb ho7; have hcz8_0 : w6.cell? ⟨gb371, 0, none⟩ = some (.int .i64 a0_0) := (Ze BK371.out 0).trans rfl; have hcz8_1 : w6.cell? ⟨gb371, 1, none⟩ = some (.slice A0_1 l0_1.length c0_1) := (Ze BK371.out 1).trans rfl; have hfz8_0 := Zd BK371.out 0; have hfz8_1 := Zd BK371.out 1) | ((with_reducible refine Zl (f := 58) rfl ?_); refine Zx (some 10) rfl rfl Try.func58 (by kernel_rfl) rfl #[.agg #[.int .i64 a0_0, .slice A0_1 l0_1.length c0_1]] rfl ar_ ?_; (with_reducible refine (impl_IsGraph.calls k a0_0 _ _ l0_1 true _ ?side1 ?side2 A3.out).mono ?_); (case side1 => exact cb_ HR0_1.out); (case side2 => exact HC0_1.out); rintro e w9 ⟨rfl, hb⟩; refine ⟨_, rfl, ?_⟩; have n0_ := Aside0.mk (Kd.R_below (rR_ HO374.out) hb); have n1_ := Aside0.mk (Zj (g := gb371) (o := .cells #[.int .i64 a0_0, .slice A0_1 l0_1.length c0_1] 27 (0, 0)) (bk_ BK371.out) hb); have n2_ := Aside0.mk (Zf hb_ hb); clear HO374; clear BK371; clear HB; have HO374 := n0_; have BK371 := n1_; have HB := n2_; clear n0_ n1_ n2_; (try clear hb); (try clear hb2); (try clear hk); (try clear hi); have hcz10_0 : w9.cell? ⟨gb371, 0, none⟩ = some (.int .i64 a0_0) := (Ze BK371.out 0).trans rfl; have hcz10_1 : w9.cell? ⟨gb371, 1, none⟩ = some (.slice A0_1 l0_1.length c0_1) := (Ze BK371.out 1).trans rfl; have hfz10_0 := Zd BK371.out 0; have hfz10_1 := Zd BK371.out 1))
  go_loopg [5, 16] k (fun kq v5 v16 w' => ∃ (x5_1 : List Int) (x16_1 : Int), v16 = .int .i64 x16_1 ∧ Aside0 (impl_AttackersOf.l0 kq a1 x5_1 l0_1 (l0_1.length : Int) x16_1 = some r) ∧ Aside0 (kq ≤ k) ∧ Aside0 (Kd.R (Kd.int .i64) 3 w' w.heap.size (fun _ => True) v5 x5_1) ∧ Aside0 (w'.heap[gb371]? = some (.cells #[.int .i64 a0_0, (.slice A0_1 l0_1.length c0_1)] 27 (0, 0))) ∧ Aside0 (Below w.heap.size w w'))
  case atStart => exact ⟨(y372), (0), sm_, H', ⟨Nat.le_refl _⟩, ⟨rR_ HO374.out⟩, ⟨bk_ BK371.out⟩, ⟨hb_⟩⟩
  case round =>
   clear H'
   try clear p2
   try clear c4
   try clear c5
   try clear c6
   try clear hcz10_0
   try clear hcz10_1
   try clear hcz8_0
   try clear hcz8_1
   try clear hfz10_0
   try clear hfz10_1
   try clear hfz8_0
   try clear hfz8_1
   obtain ⟨x5_1, x16_1, rfl, HA, HK1, HO_5, BK371, HB⟩ := hrel
   cases gk with
   | zero => exact absurd HA.out (by simp [impl_AttackersOf.l0])
   | succ k1 =>
    have H := HA.out
    clear HA
    simp only [impl_AttackersOf.l0] at H
    by_cases c11 : x16_1 < (l0_1.length : Int)
    ·rw [if_pos c11] at H
     have c11b0 : decide (x16_1 < (l0_1.length : Int)) = true := decide_eq_true c11
     clear c11
     by_cases c12 : 0 ≤ x16_1
     ·rw [if_pos c12] at H
      have c12b0 : decide (0 ≤ x16_1) = true := decide_eq_true c12
      clear c12
      by_cases c13 : x16_1 < (l0_1.length : Int)
      ·rw [if_pos c13] at H
       have c13b0 : decide (x16_1 < (l0_1.length : Int)) = true := decide_eq_true c13
       clear c13
       by_cases c14 : 1 < ((rd_L1 l0_1 x16_1).length : Int)
       ·rw [if_pos c14] at H
        have c14b0 : decide (1 < ((rd_L1 l0_1 x16_1).length : Int)) = true := decide_eq_true c14
        have c14b1 : decide (1 < (rd_L1 l0_1 x16_1).length) = true := decide_eq_true (by omega)
        clear c14
        by_cases c15 : (rd (rd_L1 l0_1 x16_1) 1) = a1
        ·rw [if_pos c15] at H
         have c15b0 : ((rd (rd_L1 l0_1 x16_1) 1) == a1) = true := beq_iff_eq.mpr c15
         have c15b1 : ((rd (rd_L1 l0_1 x16_1) 1) != a1) = false := bne_eq_false_iff_eq.mpr c15
         clear c15
         by_cases c16 : 0 < ((rd_L1 l0_1 x16_1).length : Int)
         ·rw [if_pos c16] at H
          have c16b0 : decide (0 < ((rd_L1 l0_1 x16_1).length : Int)) = true := decide_eq_true c16
          have c16b1 : decide (0 < (rd_L1 l0_1 x16_1).length) = true := decide_eq_true (by omega)
          clear c16
          by_cases c17 : x5_1.length < 17592186044416
          ·rw [if_pos c17] at H
           have LMc17 := Aside0.mk c17
           clear c17
           obtain ⟨y379, hy379⟩ : ∃ y_ : List Int, y_ = (x5_1 ++ [rd (rd_L1 l0_1 x16_1) 0]) := ⟨_, rfl⟩
           replace H : (impl_AttackersOf.l0 k1 a1 y379 l0_1 (l0_1.length : Int) (wrap64 (x16_1 + 1))) = some r := hy_ hy379 H
           have Ny379 := Aside0.mk hy379
           clear hy379
           have H' := Aside0.mk H
           clear H
           have p376 : 0 ≤ (x16_1 : Int) := of_decide_eq_true as_
           have q376 : x16_1 < (l0_1.length : Int) := of_decide_eq_true as_
           obtain ⟨ad376, A376_0, c376_0, e376, hx376_0, hl376_0, hi376_0⟩ := at_L1 HR0_1.out x16_1 p376 q376
           cases e376
           replace hx376_0 := (HB.out.cell (World.block_lt_of_cell? w _ hx376_0)).trans hx376_0
           have HR376_0 := Aside0.mk hi376_0
           have HC376_0 := Aside0.mk hl376_0
           clear hi376_0 hl376_0
           replace p376 := eq_true p376
           replace q376 := eq_true q376
           have p377 : 0 ≤ (1 : Int) := (by omega)
           have q377 : 1 < ((rd_L1 l0_1 x16_1).length : Int) := of_decide_eq_true as_
           obtain ⟨ad377, e377, hx377_0⟩ := Zo HR376_0.out 1 p377 q377
           cases e377
           (try simp only [show (1 : Int).toNat = 1 from rfl, Nat.reduceMul, Nat.reduceEqDiff, Go.Addr.add, ↓reduceIte] at hx377_0)
           have qi377 : (1 < (rd_L1 l0_1 x16_1).length) = True := eq_true (by omega)
           (try rw [show ((1 : Int)).toNat = 1 from rfl] at hx377_0)
           replace hx377_0 := (HB.out.cell (World.block_lt_of_cell? w _ hx377_0)).trans hx377_0
           replace p377 := eq_true p377
           replace q377 := eq_true q377
           have p378 : 0 ≤ (0 : Int) := (by omega)
           have q378 : 0 < ((rd_L1 l0_1 x16_1).length : Int) := of_decide_eq_true as_
           obtain ⟨ad378, e378, hx378_0⟩ := Zo HR376_0.out 0 p378 q378
           obtain rfl : ad377 = ad378 := (by injection e378)
           have qi378 : (0 < (rd_L1 l0_1 x16_1).length) = True := eq_true (by omega)
           (try rw [show ((0 : Int)).toNat = 0 from rfl] at hx378_0)
           (try rw [Addr.add_zero'] at hx378_0)
           replace hx378_0 := (HB.out.cell (World.block_lt_of_cell? w _ hx378_0)).trans hx378_0
           replace p378 := eq_true p378
           replace q378 := eq_true q378
           go_wp2_with (first | ((with_reducible refine gate_builtin (b := .append) (xs := #[.tmp 25, .tmp 29]) rfl ?_); at_builtin; refine Kd.R_append (Kd.int .i64) (w0 := w) w.heap.size rfl (.tmp 25) (.tmp 29) 38 3 (.int .i64 0) 8 rfl Try.underlying38 info3 rfl (by decide) (by omega) u5 x5_1 (rd (rd_L1 l0_1 x16_1) 0) [.int .i64 (rd (rd_L1 l0_1 x16_1) 0)] (fun _ => True) (fun _ => False) rfl rfl ?aP (fun _ hk => hk.elim) ?aF ?aO ?aB ?aS ?aL ?_; (case aP => exact rfl); (case aB => exact hb_); (case aF => exact (fun _ _ => trivial)); (case aO => exact (rR_ HO_5.out)); (case aS => exact (Zi hb_)); (case aL => have := LMc17.out; omega); intro v380 w18 ho hb hg hat; rw [← Ny379.out] at ho; have n0_ := Aside0.mk (blk_grown (g := gb371) (o := .cells #[.int .i64 a0_0, .slice (some ad376) l0_1.length c0_1] 27 (0, 0)) (bk_ BK371.out) hg (Kd.R_ne HO_5.out BK371.out (by decide))); have n1_ := Aside0.mk (hb); have n2_ := Aside0.mk (ho); clear BK371; clear HB; clear HO_5; have BK371 := n0_; have HB := n1_; have HO381 := n2_; clear n0_ n1_ n2_; clear ho hb hg hat))
           go_roundg k1
           case measure => have := HK1.out; omega
           case rel => exact ⟨(y379), (wrap64 (x16_1 + 1)), sm_, H', ⟨by have := HK1.out; omega⟩, ⟨rR_ HO381.out⟩, ⟨bk_ BK371.out⟩, ⟨hb_⟩⟩
          ·rw [if_neg c17] at H
           exact absurd H (by simp)
         ·rw [if_neg c16] at H
          exact absurd H (by simp)
        ·rw [if_neg c15] at H
         have c15b0 : ((rd (rd_L1 l0_1 x16_1) 1) == a1) = false := beq_eq_false_iff_ne.mpr c15
         have c15b1 : ((rd (rd_L1 l0_1 x16_1) 1) != a1) = true := bne_iff_ne.mpr c15
         have H' := Aside0.mk H
         clear H
         have p376 : 0 ≤ (x16_1 : Int) := of_decide_eq_true as_
         have q376 : x16_1 < (l0_1.length : Int) := of_decide_eq_true as_
         obtain ⟨ad376, A376_0, c376_0, e376, hx376_0, hl376_0, hi376_0⟩ := at_L1 HR0_1.out x16_1 p376 q376
         cases e376
         replace hx376_0 := (HB.out.cell (World.block_lt_of_cell? w _ hx376_0)).trans hx376_0
         have HR376_0 := Aside0.mk hi376_0
         have HC376_0 := Aside0.mk hl376_0
         clear hi376_0 hl376_0
         replace p376 := eq_true p376
         replace q376 := eq_true q376
         have p377 : 0 ≤ (1 : Int) := (by omega)
         have q377 : 1 < ((rd_L1 l0_1 x16_1).length : Int) := of_decide_eq_true as_
         obtain ⟨ad377, e377, hx377_0⟩ := Zo HR376_0.out 1 p377 q377
         cases e377
         (try simp only [show (1 : Int).toNat = 1 from rfl, Nat.reduceMul, Nat.reduceEqDiff, Go.Addr.add, ↓reduceIte] at hx377_0)
         have qi377 : (1 < (rd_L1 l0_1 x16_1).length) = True := eq_true (by omega)
         (try rw [show ((1 : Int)).toNat = 1 from rfl] at hx377_0)
         replace hx377_0 := (HB.out.cell (World.block_lt_of_cell? w _ hx377_0)).trans hx377_0
         replace p377 := eq_true p377
         replace q377 := eq_true q377
         go_wp2
         go_roundg k1
         case measure => have := HK1.out; omega
         case rel => exact ⟨(x5_1), (wrap64 (x16_1 + 1)), sm_, H', ⟨by have := HK1.out; omega⟩, ⟨rR_ HO_5.out⟩, ⟨bk_ BK371.out⟩, ⟨hb_⟩⟩
       ·rw [if_neg c14] at H
        exact absurd H (by simp)
      ·rw [if_neg c13] at H
       exact absurd H (by simp)
     ·rw [if_neg c12] at H
      exact absurd H (by simp)
    ·rw [if_neg c11] at H
     have c11b0 : decide (x16_1 < (l0_1.length : Int)) = false := decide_eq_false c11
     clear c11
     obtain rfl := Option.some.inj H
     go_wp2
     go_ret
     exact ⟨_, er_, rR_ HO_5.out, hb_⟩
 ·replace c4 := Bool.eq_false_iff.mpr c4
  subst c4
  have H1 : (some y372) = some r := by rw [if_neg (show ¬ (false = true) by decide)] at H; exact H
  clear H
  have H := H1
  clear H1
  obtain rfl := Option.some.inj H
  go_enter Try.func67, Try.ntmps67
  go_wp2_with (first | ((with_reducible refine Zr (N := 2) rfl ?_); refine Zu ?hg (N := 2) ?hd (cs := #[.int .i64 a0_0, .slice A0_1 l0_1.length c0_1]) (t := 27) ?hr ?_; (case hd => rfl); (case hg => rfl); (case hr => first | (go_simp; done) | (go_simp; rfl)); intro gb371 hg w19 hbox hb; have n0_ := Aside0.mk (Zf hb_ hb); have n1_ := Aside0.mk (hbox); have n2_ := Aside0.mk ((hz_ hg : w.heap.size ≤ gb371)); have n3_ := Aside0.mk ((hz_ hg : w.heap.size ≤ gb371)); clear HB; have HB := n0_; have BK371 := n1_; have GW371 := n2_; have GE371 := n3_; clear n0_ n1_ n2_ n3_; clear hb hbox hg) | ((with_reducible refine Zr (N := 8) rfl ?_); refine Kd.R_lit (Kd.int .i64) _ 3 ?hg (N := 8) ?hd (xs := ([] : List Int)) (inner := []) (ok := fun _ => True) (okp := fun _ => True) ?hr ?hp (fun _ hk => hk) trivial (Below.refl _ _) (Nat.le_refl _) (by simp) ?_; (case hd => rfl); (case hg => rfl); (case hr => first | (go_simp; done) | (go_simp; rfl)); (case hp => exact (Reps.none _ _)); intro v373 w20 ho21 hb hg_ hnew_; clear hg_ hnew_; (first | rw [← Ny372.out] at ho21 | (simp only [Int.reduceToNat] at ho21; rw [← Ny372.out] at ho21)); have n0_ := Aside0.mk (Kd.R_lower ho21 (Zi hb_)); have n1_ := Aside0.mk (Zj (g := gb371) (o := .cells #[.int .i64 a0_0, .slice A0_1 l0_1.length c0_1] 27 (0, 0)) (bk_ BK371.out) hb); have n2_ := Aside0.mk (Zf hb_ hb); clear BK371; clear HB; have HO374 := n0_; have BK371 := n1_; have HB := n2_; clear n0_ n1_ n2_; clear hb ho21; have hcz22_0 : w20.cell? ⟨gb371, 0, none⟩ = some (.int .i64 a0_0) := (Ze BK371.out 0).trans rfl; have hcz22_1 : w20.cell? ⟨gb371, 1, none⟩ = some (.slice A0_1 l0_1.length c0_1) := (Ze BK371.out 1).trans rfl; have hfz22_0 := Zd BK371.out 0; have hfz22_1 := Zd BK371.out 1) | ((with_reducible refine Zl (f := 58) rfl ?_); refine Zx (some 10) rfl rfl Try.func58 (by kernel_rfl) rfl #[.agg #[.int .i64 a0_0, .slice A0_1 l0_1.length c0_1]] rfl ar_ ?_; (with_reducible refine (impl_IsGraph.calls k a0_0 _ _ l0_1 false _ ?side1 ?side2 A3.out).mono ?_); (case side1 => exact cb_ HR0_1.out); (case side2 => exact HC0_1.out); rintro e w23 ⟨rfl, hb⟩; refine ⟨_, rfl, ?_⟩; have n0_ := Aside0.mk (Kd.R_below (rR_ HO374.out) hb); have n1_ := Aside0.mk (Zj (g := gb371) (o := .cells #[.int .i64 a0_0, .slice A0_1 l0_1.length c0_1] 27 (0, 0)) (bk_ BK371.out) hb); have n2_ := Aside0.mk (Zf hb_ hb); clear HO374; clear BK371; clear HB; have HO374 := n0_; have BK371 := n1_; have HB := n2_; clear n0_ n1_ n2_; (try clear hb); (try clear hb2); (try clear hk); (try clear hi)))
  go_ret
  exact ⟨_, er_, rR_ HO374.out, hb_⟩

/-! ### impl_Defends: function 97 -/
mutual
def impl_Defends.j0 : Nat → List Int → Int → Bool → Int → List (List Int) → Option (Bool)
 | 0, _, _, _, _, _ => none
 | k + 1, x1, x2, x19, x383000, x383001 => if x19 = true then (some false) else ((impl_HitBy.f k x383000 x383001 x1).bind fun t385 => ((impl_AttackersOf.f k x383000 x383001 x2).bind fun t388 => (impl_Defends.l0 k t385 t388 (t388.length : Int) 0)))
def impl_Defends.l0 : Nat → List Int → List Int → Int → Int → Option (Bool)
 | 0, _, _, _, _ => none
 | k + 1, x7, x25, x26, x27 => if x27 < x26 then (if 0 ≤ x27 then (if x27 < (x25.length : Int) then ((slices_Contains_int_int.f k x7 (rd x25 x27)).bind fun t392 => (if t392 = true then (impl_Defends.l0 k x7 x25 x26 (wrap64 (x27 + 1))) else (some false))) else (none)) else (none)) else (some true)
end
def impl_Defends.f (k : Nat) (a0_0 : Int) (l0_1 : List (List Int)) (l1 : List Int) (a2 : Int) : Option (Bool) := (impl_IsSet.f k a0_0 l0_1 l1).bind fun t383 => (if t383 = true then ((impl_isClaim.f a0_0 l0_1 a2).bind fun t384 => (impl_Defends.j0 k l1 a2 (!t384) a0_0 l0_1)) else (impl_Defends.j0 k l1 a2 true a0_0 l0_1))
theorem impl_Defends.mono_l : ∀ k, (∀ y0 y1 y2 y3 y4, LeO (impl_Defends.j0 k y0 y1 y2 y3 y4) (impl_Defends.j0 (k + 1) y0 y1 y2 y3 y4)) ∧ (∀ y0 y1 y2 y3, LeO (impl_Defends.l0 k y0 y1 y2 y3) (impl_Defends.l0 (k + 1) y0 y1 y2 y3))
 | 0 => ⟨fun _ _ _ _ _ r h => by simp [impl_Defends.j0] at h, fun _ _ _ _ r h => by simp [impl_Defends.l0] at h⟩
 | k + 1 => by
  obtain ⟨ih0, ih1⟩ := impl_Defends.mono_l k
  refine ⟨?_, ?_⟩
  ·intro y0 y1 y2 y3 y4
   unfold impl_Defends.j0
   repeat' first
   | (with_reducible exact ih0 _ _ _ _ _)
   | (with_reducible exact ih1 _ _ _ _)
   | (with_reducible exact impl_AttackersOf.mono _ _ _ _)
   | (with_reducible exact impl_HitBy.mono _ _ _ _)
   | (with_reducible exact impl_IsSet.mono _ _ _ _)
   | (with_reducible exact slices_Contains_int_int.mono _ _ _)
   | (with_reducible exact Zs _)
   | (with_reducible exact Zg _)
   | (with_reducible refine Zn ?_ ?_)
   | (with_reducible refine Zh ?_ (fun _ => ?_))
   | exact ih0 _ _ _ _ _
   | exact ih1 _ _ _ _
   | exact impl_AttackersOf.mono _ _ _ _
   | exact impl_HitBy.mono _ _ _ _
   | exact impl_IsSet.mono _ _ _ _
   | exact slices_Contains_int_int.mono _ _ _
   | exact Zg _
   | refine Zn ?_ ?_
   | refine Zh ?_ (fun _ => ?_)
  ·intro y0 y1 y2 y3
   unfold impl_Defends.l0
   repeat' first
   | (with_reducible exact ih0 _ _ _ _ _)
   | (with_reducible exact ih1 _ _ _ _)
   | (with_reducible exact impl_AttackersOf.mono _ _ _ _)
   | (with_reducible exact impl_HitBy.mono _ _ _ _)
   | (with_reducible exact impl_IsSet.mono _ _ _ _)
   | (with_reducible exact slices_Contains_int_int.mono _ _ _)
   | (with_reducible exact Zs _)
   | (with_reducible exact Zg _)
   | (with_reducible refine Zn ?_ ?_)
   | (with_reducible refine Zh ?_ (fun _ => ?_))
   | exact ih0 _ _ _ _ _
   | exact ih1 _ _ _ _
   | exact impl_AttackersOf.mono _ _ _ _
   | exact impl_HitBy.mono _ _ _ _
   | exact impl_IsSet.mono _ _ _ _
   | exact slices_Contains_int_int.mono _ _ _
   | exact Zg _
   | refine Zn ?_ ?_
   | refine Zh ?_ (fun _ => ?_)
theorem impl_Defends.mono : ∀ a0 a1 a2 a3 k, LeO (impl_Defends.f k a0 a1 a2 a3) (impl_Defends.f (k + 1) a0 a1 a2 a3) := by
 intro a0 a1 a2 a3 k
 obtain ⟨ih0, ih1⟩ := impl_Defends.mono_l k
 unfold impl_Defends.f
 repeat' first
   | (with_reducible exact ih0 _ _ _ _ _)
   | (with_reducible exact ih1 _ _ _ _)
   | (with_reducible exact impl_AttackersOf.mono _ _ _ _)
   | (with_reducible exact impl_HitBy.mono _ _ _ _)
   | (with_reducible exact impl_IsSet.mono _ _ _ _)
   | (with_reducible exact slices_Contains_int_int.mono _ _ _)
   | (with_reducible exact Zs _)
   | (with_reducible exact Zg _)
   | (with_reducible refine Zn ?_ ?_)
   | (with_reducible refine Zh ?_ (fun _ => ?_))
   | exact ih0 _ _ _ _ _
   | exact ih1 _ _ _ _
   | exact impl_AttackersOf.mono _ _ _ _
   | exact impl_HitBy.mono _ _ _ _
   | exact impl_IsSet.mono _ _ _ _
   | exact slices_Contains_int_int.mono _ _ _
   | exact Zg _
   | refine Zn ?_ ?_
   | refine Zh ?_ (fun _ => ?_)
set_option maxHeartbeats 8000000 in
set_option maxRecDepth 100000 in
theorem impl_Defends.calls (k : Nat) (a0_0 : Int) (A0_1 : Option Addr) (c0_1 : Nat) (l0_1 : List (List Int)) (A1 : Option Addr) (c1 : Nat) (l1 : List Int) (a2 : Int) (r : Bool) (w : World) (hr0_1 : Kd.C (Kd.slice 3 (Kd.int .i64)) w A0_1 l0_1.length l0_1) (hc0_1 : l0_1.length ≤ c0_1) (hr1 : Kd.C (Kd.int .i64) w A1 l1.length l1) (hc1 : l1.length ≤ c1) (h : impl_Defends.f k a0_0 l0_1 l1 a2 = some r) :
  Calls Try.prog 97 #[.agg #[.int .i64 a0_0, .slice A0_1 l0_1.length c0_1], .slice A1 l1.length c1, .int .i64 a2] w fun e w' => e = .returned (.bool r) ∧ Below w.heap.size w w' := by
 have hu27 := Try.underlying27
 have HR0_1 := Aside0.mk hr0_1
 have HC0_1 := Aside0.mk hc0_1
 clear hr0_1 hc0_1
 have HR1 := Aside0.mk hr1
 have HC1 := Aside0.mk hc1
 clear hr1 hc1
 have HB := Aside0.mk (Below.refl w.heap.size w)
 have H : ((impl_IsSet.f k a0_0 l0_1 l1).bind fun t383 => (if t383 = true then ((impl_isClaim.f a0_0 l0_1 a2).bind fun t384 => (impl_Defends.j0 k l1 a2 (!t384) a0_0 l0_1)) else (impl_Defends.j0 k l1 a2 true a0_0 l0_1))) = some r := h
 clear h
 have HC4 := Aside0.mk H
 clear H
 go_enter Try.func97, Try.ntmps97
 go_upto_region 1 with (first | ((with_reducible refine Zr (N := 3) rfl ?_); refine Zu ?hg (N := 3) ?hd (cs := #[.int .i64 a0_0, .slice A0_1 l0_1.length c0_1]) (t := 27) ?hr ?_; (case hd => rfl); (case hg => rfl); (case hr => first | (go_simp; done) | (go_simp; rfl)); intro gb382 hg w5 hbox hb; have n0_ := Aside0.mk (Zf hb_ hb); have n1_ := Aside0.mk (hbox); have n2_ := Aside0.mk ((hz_ hg : w.heap.size ≤ gb382)); have n3_ := Aside0.mk ((hz_ hg : w.heap.size ≤ gb382)); clear HB; have HB := n0_; have BK382 := n1_; have GW382 := n2_; have GE382 := n3_; clear n0_ n1_ n2_ n3_; clear hb hbox hg))
 (try simp only [Act.put, Za, Zb, Zc])
 go_cut [19] (fun v19 wc => ∃ (kq : Nat) (x19_3 : Bool), v19 = .bool x19_3 ∧ Aside0 (impl_Defends.j0 kq l1 a2 x19_3 a0_0 l0_1 = some r) ∧ Aside0 (kq ≤ k) ∧ Aside0 (wc.heap[gb382]? = some (.cells #[.int .i64 a0_0, (.slice A0_1 l0_1.length c0_1)] 27 (0, 0))) ∧ Aside0 (Below w.heap.size w wc))
 case first =>
  have H := HC4.out
  clear HC4
  replace H := Option.bind_eq_some_iff.mp H
  obtain ⟨t383, A60, H⟩ := H
  replace H : (if t383 = true then ((impl_isClaim.f a0_0 l0_1 a2).bind fun t384 => (impl_Defends.j0 k l1 a2 (!t384) a0_0 l0_1)) else (impl_Defends.j0 k l1 a2 true a0_0 l0_1)) = some r := H
  have A6 := Aside0.mk A60
  clear A60
  by_cases c7 : t383 = true
  ·subst c7
   have H1 : ((impl_isClaim.f a0_0 l0_1 a2).bind fun t384 => (impl_Defends.j0 k l1 a2 (!t384) a0_0 l0_1)) = some r := by rw [if_pos rfl] at H; exact H
   clear H
   have H := H1
   clear H1
   replace H := Option.bind_eq_some_iff.mp H
   obtain ⟨t384, A80, H⟩ := H
   replace H : (impl_Defends.j0 k l1 a2 (!t384) a0_0 l0_1) = some r := H
   have A8 := Aside0.mk A80
   clear A80
   have H' := Aside0.mk H
   clear H
   have hcz9_0 : w5.cell? ⟨gb382, 0, none⟩ = some (.int .i64 a0_0) := (Ze BK382.out 0).trans rfl
   have hcz9_1 : w5.cell? ⟨gb382, 1, none⟩ = some (.slice A0_1 l0_1.length c0_1) := (Ze BK382.out 1).trans rfl
   have hfz9_0 := Zd BK382.out 0
   have hfz9_1 := Zd BK382.out 1
   go_wp2_with (first | ((with_reducible refine Zl (f := 70) rfl ?_); refine Zx (some 12) rfl rfl Try.func70 (by kernel_rfl) rfl #[.agg #[.int .i64 a0_0, .slice A0_1 l0_1.length c0_1], .slice A1 l1.length c1] rfl ar_ ?_; (with_reducible refine (impl_IsSet.calls k a0_0 _ _ l0_1 _ _ l1 true _ ?side1 ?side2 ?side3 ?side4 A6.out).mono ?_); (case side1 => exact cb_ HR0_1.out); (case side2 => exact HC0_1.out); (case side3 => exact cb_ HR1.out); (case side4 => exact HC1.out); rintro e w10 ⟨rfl, hb⟩; refine ⟨_, rfl, ?_⟩; have n0_ := Aside0.mk (Zj (g := gb382) (o := .cells #[.int .i64 a0_0, .slice A0_1 l0_1.length c0_1] 27 (0, 0)) (bk_ BK382.out) hb); have n1_ := Aside0.mk (Zf hb_ hb); clear BK382; clear HB; have BK382 := n0_; have HB := n1_; clear n0_ n1_; (try clear hb); (try clear hb2); (try clear hk); (try clear hi); have hcz11_0 : w10.cell? ⟨gb382, 0, none⟩ = some (.int .i64 a0_0) := (Ze BK382.out 0).trans rfl; have hcz11_1 : w10.cell? ⟨gb382, 1, none⟩ = some (.slice A0_1 l0_1.length c0_1) := (Ze BK382.out 1).trans rfl; have hfz11_0 := Zd BK382.out 0; have hfz11_1 := Zd BK382.out 1) | (go_at_call 63; (with_reducible refine (impl_isClaim.calls a0_0 _ _ l0_1 a2 t384 _ ?side1 ?side2 A8.out).mono ?_); (case side1 => exact cb_ HR0_1.out); (case side2 => exact HC0_1.out); rintro e w12 ⟨rfl, hb⟩; have n0_ := Aside0.mk (Zj (g := gb382) (o := .cells #[.int .i64 a0_0, .slice A0_1 l0_1.length c0_1] 27 (0, 0)) (bk_ BK382.out) hb); have n1_ := Aside0.mk (Zf hb_ hb); clear BK382; clear HB; have BK382 := n0_; have HB := n1_; clear n0_ n1_; (try clear hb); (try clear hb2); (try clear hk); (try clear hi)))
   go_meet
   case rel => exact ⟨_, (!t384), sm_, H', ⟨by first | omega | exact Nat.le_refl _⟩, ⟨bk_ BK382.out⟩, ⟨hb_⟩⟩
  ·replace c7 := Bool.eq_false_iff.mpr c7
   subst c7
   have H1 : (impl_Defends.j0 k l1 a2 true a0_0 l0_1) = some r := by rw [if_neg (show ¬ (false = true) by decide)] at H; exact H
   clear H
   have H := H1
   clear H1
   have H' := Aside0.mk H
   clear H
   have hcz13_0 : w5.cell? ⟨gb382, 0, none⟩ = some (.int .i64 a0_0) := (Ze BK382.out 0).trans rfl
   have hcz13_1 : w5.cell? ⟨gb382, 1, none⟩ = some (.slice A0_1 l0_1.length c0_1) := (Ze BK382.out 1).trans rfl
   have hfz13_0 := Zd BK382.out 0
   have hfz13_1 := Zd BK382.out 1
   go_wp2_with (first | ((with_reducible refine Zl (f := 70) rfl ?_); refine Zx (some 12) rfl rfl Try.func70 (by kernel_rfl) rfl #[.agg #[.int .i64 a0_0, .slice A0_1 l0_1.length c0_1], .slice A1 l1.length c1] rfl ar_ ?_; (with_reducible refine (impl_IsSet.calls k a0_0 _ _ l0_1 _ _ l1 false _ ?side1 ?side2 ?side3 ?side4 A6.out).mono ?_); (case side1 => exact cb_ HR0_1.out); (case side2 => exact HC0_1.out); (case side3 => exact cb_ HR1.out); (case side4 => exact HC1.out); rintro e w14 ⟨rfl, hb⟩; refine ⟨_, rfl, ?_⟩; have n0_ := Aside0.mk (Zj (g := gb382) (o := .cells #[.int .i64 a0_0, .slice A0_1 l0_1.length c0_1] 27 (0, 0)) (bk_ BK382.out) hb); have n1_ := Aside0.mk (Zf hb_ hb); clear BK382; clear HB; have BK382 := n0_; have HB := n1_; clear n0_ n1_; (try clear hb); (try clear hb2); (try clear hk); (try clear hi)))
   go_meet
   case rel => exact ⟨_, (true), sm_, H', ⟨by first | omega | exact Nat.le_refl _⟩, ⟨bk_ BK382.out⟩, ⟨hb_⟩⟩
 case rest =>
  clear HC4
  try clear c1
  try clear p2
  try clear c7
  try clear c9
  try clear hcz11_0
  try clear hcz11_1
  try clear hcz13_0
  try clear hcz13_1
  try clear hcz9_0
  try clear hcz9_1
  try clear hfz11_0
  try clear hfz11_1
  try clear hfz13_0
  try clear hfz13_1
  try clear hfz9_0
  try clear hfz9_1
  obtain ⟨kq, x19_3, rfl, HA, HJ3, BK382, HB⟩ := hcut
  cases kq with
  | zero => exact absurd HA.out (by simp [impl_Defends.j0])
  | succ kj3 =>
   have H := HA.out
   clear HA
   simp only [impl_Defends.j0] at H
   by_cases c15 : x19_3 = true
   ·subst c15
    have H1 : (some false) = some r := by rw [if_pos rfl] at H; exact H
    clear H
    have H := H1
    clear H1
    obtain rfl := Option.some.inj H
    go_wp2
    go_ret
    exact ⟨er_, hb_⟩
   ·replace c15 := Bool.eq_false_iff.mpr c15
    subst c15
    have H1 : ((impl_HitBy.f kj3 a0_0 l0_1 l1).bind fun t385 => ((impl_AttackersOf.f kj3 a0_0 l0_1 a2).bind fun t388 => (impl_Defends.l0 kj3 t385 t388 (t388.length : Int) 0))) = some r := by rw [if_neg (show ¬ (false = true) by decide)] at H; exact H
    clear H
    have H := H1
    clear H1
    replace H := Option.bind_eq_some_iff.mp H
    obtain ⟨t385, A160, H⟩ := H
    replace H : ((impl_AttackersOf.f kj3 a0_0 l0_1 a2).bind fun t388 => (impl_Defends.l0 kj3 t385 t388 (t388.length : Int) 0)) = some r := H
    have A16 := Aside0.mk A160
    clear A160
    replace H := Option.bind_eq_some_iff.mp H
    obtain ⟨t388, A170, H⟩ := H
    replace H : (impl_Defends.l0 kj3 t385 t388 (t388.length : Int) 0) = some r := H
    have A17 := Aside0.mk A170
    clear A170
    have H' := Aside0.mk H
    clear H
    have hcz18_0 : wc.cell? ⟨gb382, 0, none⟩ = some (.int .i64 a0_0) := (Ze BK382.out 0).trans rfl
    have hcz18_1 : wc.cell? ⟨gb382, 1, none⟩ = some (.slice A0_1 l0_1.length c0_1) := (Ze BK382.out 1).trans rfl
    have hfz18_0 := Zd BK382.out 0
    have hfz18_1 := Zd BK382.out 1
    go_wp2_with (first | ((with_reducible refine Zl (f := 96) rfl ?_); refine Zx (some 22) rfl rfl Try.func96 (by kernel_rfl) rfl #[.agg #[.int .i64 a0_0, .slice A0_1 l0_1.length c0_1], .slice A1 l1.length c1] rfl ar_ ?_; (with_reducible refine (impl_HitBy.calls kj3 a0_0 _ _ l0_1 _ _ l1 t385 _ ?side1 ?side2 ?side3 ?side4 A16.out).mono ?_); (case side1 => exact cb_ HR0_1.out); (case side2 => exact HC0_1.out); (case side3 => exact cb_ HR1.out); (case side4 => exact HC1.out); rintro e w19 ⟨v386, rfl, ho0, hb⟩; refine ⟨_, rfl, ?_⟩; have n0_ := Aside0.mk (Kd.R_lower ho0 (Zi hb_)); have n1_ := Aside0.mk (Zj (g := gb382) (o := .cells #[.int .i64 a0_0, .slice A0_1 l0_1.length c0_1] 27 (0, 0)) (bk_ BK382.out) hb); have n2_ := Aside0.mk (Zf hb_ hb); clear BK382; clear HB; have HO387 := n0_; have BK382 := n1_; have HB := n2_; clear n0_ n1_ n2_; (try clear hb); (try clear hb2); (try clear hk); (try clear hi); (try clear ho0); have hcz20_0 : w19.cell? ⟨gb382, 0, none⟩ = some (.int .i64 a0_0) := (Ze BK382.out 0).trans rfl; have hcz20_1 : w19.cell? ⟨gb382, 1, none⟩ = some (.slice A0_1 l0_1.length c0_1) := (Ze BK382.out 1).trans rfl; have hfz20_0 := Zd BK382.out 0; have hfz20_1 := Zd BK382.out 1) | ((with_reducible refine Zl (f := 67) rfl ?_); refine Zx (some 25) rfl rfl Try.func67 (by kernel_rfl) rfl #[.agg #[.int .i64 a0_0, .slice A0_1 l0_1.length c0_1], .int .i64 a2] rfl ar_ ?_; (with_reducible refine (impl_AttackersOf.calls kj3 a0_0 _ _ l0_1 a2 t388 _ ?side1 ?side2 A17.out).mono ?_); (case side1 => exact cb_ HR0_1.out); (case side2 => exact HC0_1.out); rintro e w21 ⟨v389, rfl, ho0, hb⟩; refine ⟨_, rfl, ?_⟩; have n0_ := Aside0.mk (Kd.R_elder' (rR_ HO387.out) (Kd.R_base ho0) hb); have n1_ := Aside0.mk (Kd.R_lower (Kd.R_new' ho0 (Kd.R_lt (rR_ HO387.out))) (Zi hb_)); have n2_ := Aside0.mk (Zj (g := gb382) (o := .cells #[.int .i64 a0_0, .slice A0_1 l0_1.length c0_1] 27 (0, 0)) (bk_ BK382.out) hb); have n3_ := Aside0.mk (Zf hb_ hb); clear HO387; clear BK382; clear HB; have HO387 := n0_; have HO390 := n1_; have BK382 := n2_; have HB := n3_; clear n0_ n1_ n2_ n3_; (try clear hb); (try clear hb2); (try clear hk); (try clear hi); (try clear ho0); obtain ⟨Ao22, co22, eo22⟩ := Kd.R_slice HO390.out; subst eo22))
    go_loopg [27] kj3 (fun kq v27 w' => ∃ (x27_2 : Int), v27 = .int .i64 x27_2 ∧ Aside0 (impl_Defends.l0 kq t385 t388 (t388.length : Int) x27_2 = some r) ∧ Aside0 (kq ≤ kj3) ∧ Aside0 (Kd.R (Kd.int .i64) 3 w' w.heap.size (fun k_ => some k_ ≠ ((.slice Ao22 t388.length co22) : Value).ownBlock) v386 t385) ∧ Aside0 (Kd.R (Kd.int .i64) 3 w' w.heap.size (fun k_ => some k_ ≠ (v386 : Value).ownBlock) (.slice Ao22 t388.length co22) t388) ∧ Aside0 (w'.heap[gb382]? = some (.cells #[.int .i64 a0_0, (.slice A0_1 l0_1.length c0_1)] 27 (0, 0))) ∧ Aside0 (Below w.heap.size w w'))
    case atStart => exact ⟨(0), sm_, H', ⟨Nat.le_refl _⟩, ⟨by (with_reducible repeat (first | apply Kd.R_alloc | apply Kd.R_drewN | apply Kd.R_drew)); exact Kd.R_mono HO387.out (fun _ hk => hk.2)⟩, ⟨by (with_reducible repeat (first | apply Kd.R_alloc | apply Kd.R_drewN | apply Kd.R_drew)); exact Kd.R_mono HO390.out (fun _ hk => hk.2)⟩, ⟨bk_ BK382.out⟩, ⟨hb_⟩⟩
    case round =>
     clear H'
     try clear c1
     try clear p2
     try clear c6
     try clear c7
     try clear c9
     try clear c15
     try clear hcz11_0
     try clear hcz11_1
     try clear hcz13_0
     try clear hcz13_1
     try clear hcz18_0
     try clear hcz18_1
     try clear hcz20_0
     try clear hcz20_1
     try clear hcz9_0
     try clear hcz9_1
     try clear hfz11_0
     try clear hfz11_1
     try clear hfz13_0
     try clear hfz13_1
     try clear hfz18_0
     try clear hfz18_1
     try clear hfz20_0
     try clear hfz20_1
     try clear hfz9_0
     try clear hfz9_1
     try clear p2
     obtain ⟨x27_2, rfl, HA, HK2, HO_7, HO_25, BK382, HB⟩ := hrel
     cases gk with
     | zero => exact absurd HA.out (by simp [impl_Defends.l0])
     | succ k2 =>
      have H := HA.out
      clear HA
      simp only [impl_Defends.l0] at H
      by_cases c23 : x27_2 < (t388.length : Int)
      ·rw [if_pos c23] at H
       have c23b0 : decide (x27_2 < (t388.length : Int)) = true := decide_eq_true c23
       clear c23
       by_cases c24 : 0 ≤ x27_2
       ·rw [if_pos c24] at H
        have c24b0 : decide (0 ≤ x27_2) = true := decide_eq_true c24
        clear c24
        by_cases c25 : x27_2 < (t388.length : Int)
        ·rw [if_pos c25] at H
         have c25b0 : decide (x27_2 < (t388.length : Int)) = true := decide_eq_true c25
         clear c25
         replace H := Option.bind_eq_some_iff.mp H
         obtain ⟨t392, A260, H⟩ := H
         replace H : (if t392 = true then (impl_Defends.l0 k2 t385 t388 (t388.length : Int) (wrap64 (x27_2 + 1))) else (some false)) = some r := H
         have A26 := Aside0.mk A260
         clear A260
         by_cases c27 : t392 = true
         ·subst c27
          have H1 : (impl_Defends.l0 k2 t385 t388 (t388.length : Int) (wrap64 (x27_2 + 1))) = some r := by rw [if_pos rfl] at H; exact H
          clear H
          have H := H1
          clear H1
          have H' := Aside0.mk H
          clear H
          have p391 : 0 ≤ (x27_2 : Int) := of_decide_eq_true as_
          have q391 : x27_2 < (t388.length : Int) := of_decide_eq_true as_
          obtain ⟨ad391, e391, hx391_0⟩ := Zo (Zw HO_25.out).2.2 x27_2 p391 q391
          cases e391
          replace p391 := eq_true p391
          replace q391 := eq_true q391
          obtain ⟨Ao28, co28, eo28⟩ := Kd.R_slice HO_7.out
          subst eo28
          go_wp2_with (first | ((with_reducible refine Zl (f := 49) rfl ?_); refine Zx (some 33) rfl rfl Try.func49 (by kernel_rfl) rfl #[.slice Ao28 t385.length co28, .int .i64 (rd t388 x27_2)] rfl ar_ ?_; (with_reducible refine (slices_Contains_int_int.calls k2 _ _ t385 (rd t388 x27_2) true _ ?side1 ?side2 A26.out).mono ?_); (case side1 => repeat (first | exact (Zw HO_7.out).2.2 | (with_reducible refine Zv ?_ _) | (with_reducible refine Zt ?_ _) | (with_reducible refine Zy ?_))); (case side2 => exact (Zw HO_7.out).2.1); rintro e w' ⟨rfl, ⟨nd, rfl⟩⟩; refine ⟨_, rfl, ?_⟩))
          go_roundg k2
          case measure => have := HJ3.out; have := HK2.out; omega
          case rel => exact ⟨(wrap64 (x27_2 + 1)), sm_, H', ⟨by have := HJ3.out; have := HK2.out; omega⟩, ⟨rR_ HO_7.out⟩, ⟨rR_ HO_25.out⟩, ⟨bk_ BK382.out⟩, ⟨hb_⟩⟩
         ·replace c27 := Bool.eq_false_iff.mpr c27
          subst c27
          have H1 : (some false) = some r := by rw [if_neg (show ¬ (false = true) by decide)] at H; exact H
          clear H
          have H := H1
          clear H1
          obtain rfl := Option.some.inj H
          have p391 : 0 ≤ (x27_2 : Int) := of_decide_eq_true as_
          have q391 : x27_2 < (t388.length : Int) := of_decide_eq_true as_
          obtain ⟨ad391, e391, hx391_0⟩ := Zo (Zw HO_25.out).2.2 x27_2 p391 q391
          cases e391
          replace p391 := eq_true p391
          replace q391 := eq_true q391
          obtain ⟨Ao29, co29, eo29⟩ := Kd.R_slice HO_7.out
          subst eo29
          go_wp2_with (first | ((with_reducible refine Zl (f := 49) rfl ?_); refine Zx (some 33) rfl rfl Try.func49 (by kernel_rfl) rfl #[.slice Ao29 t385.length co29, .int .i64 (rd t388 x27_2)] rfl ar_ ?_; (with_reducible refine (slices_Contains_int_int.calls k2 _ _ t385 (rd t388 x27_2) false _ ?side1 ?side2 A26.out).mono ?_); (case side1 => repeat (first | exact (Zw HO_7.out).2.2 | (with_reducible refine Zv ?_ _) | (with_reducible refine Zt ?_ _) | (with_reducible refine Zy ?_))); (case side2 => exact (Zw HO_7.out).2.1); rintro e w' ⟨rfl, ⟨nd, rfl⟩⟩; refine ⟨_, rfl, ?_⟩))
          go_ret
          exact ⟨er_, hb_⟩
        ·rw [if_neg c25] at H
         exact absurd H (by simp)
       ·rw [if_neg c24] at H
        exact absurd H (by simp)
      ·rw [if_neg c23] at H
       have c23b0 : decide (x27_2 < (t388.length : Int)) = false := decide_eq_false c23
       clear c23
       obtain rfl := Option.some.inj H
       go_wp2
       go_ret
       exact ⟨er_, hb_⟩

end Go.Proofs.Ytkmhkkhlbnhaaaa.PFnExactIsCertain
