-- Written by a program of this session (hooks of mine on the print): Lean checks it.
import Derived.Test.YtdlobolnajcfnaaPFnDisputesx0
import Derived.Test.YtdlobolnajcfnaaPFnDisputesx1
import Derived.Test.YtdlobolnajcfnaaPFnDisputesx2
import Derived.Test.YtdlobolnajcfnaaPFnDisputesx3
import Derived.Test.YtdlobolnajcfnaaPFnDisputesx11
namespace Go.Proofs.Ytdlobolnajcfnaa.PFnDisputes
open Go.RowKit Go.Proofs.YtdlobolnajcfnaaW.PrintWords Go.Proofs.YtdlobolnajcfnaaW.PrintLast Go.Proofs.YtdlobolnajcfnaaW.PrintMore
attribute [local go_sem] max2_int min2_int max_two min_two max_three min_three max_four min_four   -- for this text's walks alone
set_option linter.unusedVariables false
set_option linter.unusedSimpArgs false
set_option maxHeartbeats 8000000
set_option maxRecDepth 100000

/-! ### impl_Without: function 44 -/
mutual
def impl_Without.j0 : Nat → Int → Bool → Int → List (List Int) → Option (Int × (List (List Int)) × Bool)
  | 0, _, _, _, _ => none
  | k + 1, x1, x20, x219000, x219001 => if x20 = true then ((impl_cloneGraph.f k x219000 x219001).bind fun bt222 => (some (bt222.1, bt222.2, false))) else (impl_Without.l0 k x1 x219001 (x219001.length : Int) 0 (wrap64 (x219000 - 1)) (([] : List (List Int))))
def impl_Without.l0 : Nat → Int → List (List Int) → Int → Int → Int → List (List Int) → Option (Int × (List (List Int)) × Bool)
  | 0, _, _, _, _, _, _ => none
  | k + 1, x1, x29, x30, x31, x230000, x230001 => if x31 < x30 then (if 0 ≤ x31 then (if x31 < (x29.length : Int) then ((slices_Contains_int_int.f k (rd_L2 x29 x31) x1).bind fun t231 => (if t231 = true then (impl_Without.l0 k x1 x29 x30 (wrap64 (x31 + 1)) x230000 x230001) else ((slices_Clone_int_int.f (rd_L2 x29 x31)).bind fun t232 => (impl_Without.l1 k x1 t232 x29 x30 x31 (t232.length : Int) 0 x230000 x230001)))) else (none)) else (none)) else (some (x230000, x230001, true))
def impl_Without.l1 : Nat → Int → List Int → List (List Int) → Int → Int → Int → Int → Int → List (List Int) → Option (Int × (List (List Int)) × Bool)
  | 0, _, _, _, _, _, _, _, _, _ => none
  | k + 1, x1, x9, x29, x30, x31, x41, x42, x230000, x230001 => if x42 < x41 then (if 0 ≤ x42 then (if x42 < (x9.length : Int) then (if (rd x9 x42) > x1 then (impl_Without.l1 k x1 (x9.set (x42 : Int).toNat (wrap64 ((rd x9 x42) - 1))) x29 x30 x31 x41 (wrap64 (x42 + 1)) x230000 x230001) else (impl_Without.l1 k x1 x9 x29 x30 x31 x41 (wrap64 (x42 + 1)) x230000 x230001)) else (none)) else (none)) else (if x230001.length < 5864062014805 then (impl_Without.l0 k x1 x29 x30 (wrap64 (x31 + 1)) x230000 (x230001 ++ [x9])) else (none))
end
def impl_Without.f (k : Nat) (a0_0 : Int) (l0_1 : List (List Int)) (a1 : Int) : Option (Int × (List (List Int)) × Bool) := (impl_IsGraph.f k a0_0 l0_1).bind fun t220 => (if t220 = true then ((impl_isClaim.f a0_0 l0_1 a1).bind fun t221 => (impl_Without.j0 k a1 (!t221) a0_0 l0_1)) else (impl_Without.j0 k a1 true a0_0 l0_1))
theorem impl_Without.mono_l : ∀ k, (∀ y0 y1 y2 y3, LeO (impl_Without.j0 k y0 y1 y2 y3) (impl_Without.j0 (k + 1) y0 y1 y2 y3)) ∧ (∀ y0 y1 y2 y3 y4 y5, LeO (impl_Without.l0 k y0 y1 y2 y3 y4 y5) (impl_Without.l0 (k + 1) y0 y1 y2 y3 y4 y5)) ∧ (∀ y0 y1 y2 y3 y4 y5 y6 y7 y8, LeO (impl_Without.l1 k y0 y1 y2 y3 y4 y5 y6 y7 y8) (impl_Without.l1 (k + 1) y0 y1 y2 y3 y4 y5 y6 y7 y8))
  | 0 => ⟨fun _ _ _ _ r h => by simp [impl_Without.j0] at h, fun _ _ _ _ _ _ r h => by simp [impl_Without.l0] at h, fun _ _ _ _ _ _ _ _ _ r h => by simp [impl_Without.l1] at h⟩
  | k + 1 => by
    obtain ⟨ih0, ih1, ih2⟩ := impl_Without.mono_l k
    refine ⟨?_, ?_, ?_⟩
    · intro y0 y1 y2 y3
      unfold impl_Without.j0
      repeat' with_reducible first | apply ih0 | apply ih1 | apply ih2 | apply impl_IsGraph.mono | apply impl_cloneGraph.mono | apply slices_Contains_int_int.mono | apply ZJ | apply Zn | refine Zu ?_ ?_ | refine Zo ?_ (fun _ => ?_)
    · intro y0 y1 y2 y3 y4 y5
      unfold impl_Without.l0
      repeat' with_reducible first | apply ih0 | apply ih1 | apply ih2 | apply impl_IsGraph.mono | apply impl_cloneGraph.mono | apply slices_Contains_int_int.mono | apply ZJ | apply Zn | refine Zu ?_ ?_ | refine Zo ?_ (fun _ => ?_)
    · intro y0 y1 y2 y3 y4 y5 y6 y7 y8
      unfold impl_Without.l1
      repeat' with_reducible first | apply ih0 | apply ih1 | apply ih2 | apply impl_IsGraph.mono | apply impl_cloneGraph.mono | apply slices_Contains_int_int.mono | apply ZJ | apply Zn | refine Zu ?_ ?_ | refine Zo ?_ (fun _ => ?_)
theorem impl_Without.mono : ∀ a0 a1 a2 k, LeO (impl_Without.f k a0 a1 a2) (impl_Without.f (k + 1) a0 a1 a2) := by
  intro a0 a1 a2 k
  obtain ⟨ih0, ih1, ih2⟩ := impl_Without.mono_l k
  unfold impl_Without.f
  repeat' with_reducible first | apply ih0 | apply ih1 | apply ih2 | apply impl_IsGraph.mono | apply impl_cloneGraph.mono | apply slices_Contains_int_int.mono | apply ZJ | apply Zn | refine Zu ?_ ?_ | refine Zo ?_ (fun _ => ?_)
theorem impl_Without.calls (k : Nat) (a0_0 : Int) (A0_1 : Option Addr) (c0_1 : Nat) (l0_1 : List (List Int)) (a1 : Int) (r1 : Int) (r2 : List (List Int)) (r3 : Bool) (w : World) (hr0_1 : Kd.C (Kd.slice 3 (Kd.int .i64)) w A0_1 l0_1.length l0_1) (hc0_1 : l0_1.length ≤ c0_1) (h : impl_Without.f k a0_0 l0_1 a1 = some (r1, r2, r3)) :
    Calls Try.prog 44 #[.agg #[.int .i64 a0_0, .slice A0_1 l0_1.length c0_1], .int .i64 a1] w fun e w' => ∃ v1_ : Value, e = .returned (.tuple #[.agg #[.int .i64 r1, v1_], .bool r3]) ∧ Kd.S (Kd.slice 3 (Kd.int .i64)) 31 w' w.heap.size (fun _ => True) v1_ r2 ∧ Below w.heap.size w w' := by
  have hu27 := Try.underlying27
  have HR0_1 := Aside0.mk hr0_1
  have HC0_1 := Aside0.mk hc0_1
  clear hr0_1 hc0_1
  have HB := Aside0.mk (Below.refl w.heap.size w)
  have H := h
  unfold impl_Without.f at H
  clear h
  have HC3 := Aside0.mk H
  clear H
  go_enter Try.func44, Try.ntmps44
  go_upto_region 1 with (first | ((with_reducible refine ZA (N := 2) rfl ?_); refine ZC ?hg (N := 2) ?hd (cs := #[.int .i64 a0_0, .slice A0_1 l0_1.length c0_1]) (t := 27) ?hr ?_; (case hd => rfl); (case hg => rfl); (case hr => first | (go_simp; done) | (go_simp; rfl)); intro gb218 hg w4 hbox hb; have BK218 := Aside0.mk (hbox); have GW218 := Aside0.mk ((hz_ hg : w.heap.size ≤ gb218)); have GE218 := Aside0.mk ((hz_ hg : w.heap.size ≤ gb218)); replace HB := Aside0.mk (Zh hB_ hb); clear hb hbox hg) | ((with_reducible refine ZA (N := 4) rfl ?_); refine ZC ?hg (N := 4) ?hd (cs := #[.int .i64 0, .slice none 0 0]) (t := 27) ?hr ?_; (case hd => rfl); (case hg => rfl); (case hr => first | (go_simp; done) | (go_simp; rfl)); intro gb219 hg w5 hbox hb; have BK219 := Aside0.mk (hbox); have GW219 := Aside0.mk ((hz_ hg : w.heap.size ≤ gb219)); have GE219 := Aside0.mk ((hz_ hg : w.heap.size ≤ gb219)); replace HB := Aside0.mk (Zh hB_ hb); have NB218_219 := Aside0.mk ((by rw [hg]; exact Nat.ne_of_lt (ZS (bq_ BK218.out)) : gb218 ≠ gb219)); have NB219_218 := Aside0.mk ((by rw [hg]; exact Nat.ne_of_gt (ZS (bq_ BK218.out)) : gb219 ≠ gb218)); replace BK218 := Aside0.mk (Zg (bq_ BK218.out) hb); clear hb hbox hg))
  (try simp only [Act.put, ZW, List.set_cons_zero, List.set_cons_succ])
  go_cut [20] (fun v20 wc => ∃ (kq : Nat) (x20_2 : Bool), v20 = .bool x20_2 ∧ Aside0 (impl_Without.j0 kq a1 x20_2 a0_0 l0_1 = some (r1, r2, r3)) ∧ Aside0 (kq ≤ k) ∧ Aside0 (wc.heap[gb218]? = some (.cells #[.int .i64 a0_0, (.slice A0_1 l0_1.length c0_1)] 27 (0, 0))) ∧ Aside0 (wc.heap[gb219]? = some (.cells #[.int .i64 0, (.slice none 0 0)] 27 (0, 0))) ∧ Aside0 (Below w.heap.size w wc))
  case first =>
    have H := HC3.out
    clear HC3
    obtain ⟨t220, A6, H⟩ := bd_ H
    try dsimp only at H
    by_cases c7 : t220 = true
    rotate_left
    ·replace c7 := Bool.eq_false_iff.mpr c7
     subst c7
     have H1 : (impl_Without.j0 k a1 true a0_0 l0_1) = some (r1, r2, r3) := by rw [if_neg (show ¬ (false = true) by decide)] at H; exact H
     clear H
     have H := H1
     clear H1
     have H' := Aside0.mk H
     clear H
     have hnb14 := NB218_219.out
     have hnc14 := NB219_218.out
     obtain ⟨hcz15_0, hcz15_1, hfz15_0, hfz15_1⟩ := c2_ BK218.out
     go_wp2_with (first | ((with_reducible refine Zl (f := 24) rfl ?_); refine ZI (some 13) rfl rfl Try.func24 (by kernel_rfl) rfl #[.agg #[.int .i64 a0_0, .slice A0_1 l0_1.length c0_1]] rfl ar_ ?_; (with_reducible refine (impl_IsGraph.calls k a0_0 _ _ l0_1 false _ ?side1 ?side2 A6.out).mono ?_); (case side1 => exact cb_ HR0_1.out); (case side2 => exact HC0_1.out); rintro e w16 ⟨rfl, hb⟩; refine ⟨_, rfl, ?_⟩; replace BK218 := Aside0.mk (Zg (bq_ BK218.out) hb); replace BK219 := Aside0.mk (Zg (bq_ BK219.out) hb); replace HB := Aside0.mk (Zh hB_ hb); (try clear hb)))
     go_meet
     case rel => exact ⟨_, (true), sm_, H', ⟨by first | omega | exact Nat.le_refl _⟩, ⟨bk_ BK218.out⟩, ⟨bk_ BK219.out⟩, ⟨hB_⟩⟩
    subst c7
    have H1 : ((impl_isClaim.f a0_0 l0_1 a1).bind fun t221 => (impl_Without.j0 k a1 (!t221) a0_0 l0_1)) = some (r1, r2, r3) := by rw [if_pos rfl] at H; exact H
    clear H
    have H := H1
    clear H1
    obtain ⟨t221, A8, H⟩ := bd_ H
    try dsimp only at H
    have H' := Aside0.mk H
    clear H
    have hnb9 := NB218_219.out
    have hnc9 := NB219_218.out
    obtain ⟨hcz10_0, hcz10_1, hfz10_0, hfz10_1⟩ := c2_ BK218.out
    go_wp2_with (first | ((with_reducible refine Zl (f := 24) rfl ?_); refine ZI (some 13) rfl rfl Try.func24 (by kernel_rfl) rfl #[.agg #[.int .i64 a0_0, .slice A0_1 l0_1.length c0_1]] rfl ar_ ?_; (with_reducible refine (impl_IsGraph.calls k a0_0 _ _ l0_1 true _ ?side1 ?side2 A6.out).mono ?_); (case side1 => exact cb_ HR0_1.out); (case side2 => exact HC0_1.out); rintro e w11 ⟨rfl, hb⟩; refine ⟨_, rfl, ?_⟩; replace BK218 := Aside0.mk (Zg (bq_ BK218.out) hb); replace BK219 := Aside0.mk (Zg (bq_ BK219.out) hb); replace HB := Aside0.mk (Zh hB_ hb); (try clear hb); obtain ⟨hcz12_0, hcz12_1, hfz12_0, hfz12_1⟩ := c2_ BK218.out) | (go_at_call 61; (with_reducible refine (impl_isClaim.calls a0_0 _ _ l0_1 a1 t221 _ ?side1 ?side2 A8.out).mono ?_); (case side1 => exact cb_ HR0_1.out); (case side2 => exact HC0_1.out); rintro e w13 ⟨rfl, hb⟩; replace BK218 := Aside0.mk (Zg (bq_ BK218.out) hb); replace BK219 := Aside0.mk (Zg (bq_ BK219.out) hb); replace HB := Aside0.mk (Zh hB_ hb); (try clear hb)))
    go_meet
    case rel => exact ⟨_, (!t221), sm_, H', ⟨by first | omega | exact Nat.le_refl _⟩, ⟨bk_ BK218.out⟩, ⟨bk_ BK219.out⟩, ⟨hB_⟩⟩
  case rest =>
    clear HC3
    try clear c1
    try clear p2
    try clear c4
    try clear c5
    try clear c7
    try clear c9
    try clear c14
    try clear hcz10_0
    try clear hcz10_1
    try clear hcz12_0
    try clear hcz12_1
    try clear hcz15_0
    try clear hcz15_1
    try clear hfz10_0
    try clear hfz10_1
    try clear hfz12_0
    try clear hfz12_1
    try clear hfz15_0
    try clear hfz15_1
    obtain ⟨kq, x20_2, rfl, HA, HJ2, BK218, BK219, HB⟩ := hcut
    cases kq with
    | zero => exact absurd HA.out (by simp [impl_Without.j0])
    | succ kj2 =>
      have H := HA.out
      clear HA
      simp only [impl_Without.j0] at H
      by_cases c17 : x20_2 = true
      ·subst c17
       have H1 : ((impl_cloneGraph.f kj2 a0_0 l0_1).bind fun bt222 => (some (bt222.1, bt222.2, false))) = some (r1, r2, r3) := by rw [if_pos rfl] at H; exact H
       clear H
       have H := H1
       clear H1
       obtain ⟨⟨t222, t223⟩, A18, H⟩ := bd_ H
       try dsimp only at H
       simp only [Option.some.injEq, Prod.mk.injEq] at H
       obtain ⟨rfl, rfl, rfl⟩ := H
       have hnb19 := NB218_219.out
       have hnc19 := NB219_218.out
       obtain ⟨hcz20_0, hcz20_1, hfz20_0, hfz20_1⟩ := c2_ BK218.out
       go_wp2_with (first | ((with_reducible refine Zl (f := 91) rfl ?_); refine ZI (some 22) rfl rfl Try.func91 (by kernel_rfl) rfl #[.agg #[.int .i64 a0_0, .slice A0_1 l0_1.length c0_1]] rfl ar_ ?_; (with_reducible refine (impl_cloneGraph.calls kj2 a0_0 _ _ l0_1 t222 t223 _ ?side1 ?side2 A18.out).mono ?_); (case side1 => exact cb_ HR0_1.out); (case side2 => exact HC0_1.out); rintro e w21 ⟨v224, rfl, ho0, hb⟩; refine ⟨_, rfl, ?_⟩; have HO225 := Aside0.mk (Kd.S_lower ho0 (Zm hB_)); replace BK218 := Aside0.mk (Zg (bq_ BK218.out) hb); replace BK219 := Aside0.mk (Zg (bq_ BK219.out) hb); replace HB := Aside0.mk (Zh hB_ hb); (try clear hb); (try clear ho0); obtain ⟨hcz22_0, hcz22_1, hfz22_0, hfz22_1⟩ := c2_ BK219.out; obtain ⟨Ao23, co23, eo23⟩ := ZN HO225.out; subst eo23))
       refine bodyPost_ret (results_ct rfl _ _ gb219 27 #[.int .i64 t222, .slice Ao23 t223.length co23] (0, 0) _ rfl (by (with_reducible repeat (first | refine Ze ?_ _ | refine Zf ?_ | refine Zd ?_ _)); refine ZB (cs := #[.int .i64 t222, .slice none 0 0]) ?_ 1 _ rfl; (with_reducible repeat (first | refine Ze ?_ _ | refine Zf ?_ | refine Zd ?_ _)); refine ZB (cs := #[.int .i64 0, .slice none 0 0]) ?_ 0 _ rfl; (with_reducible repeat (first | refine Ze ?_ _ | refine Zf ?_ | refine Zd ?_ _)); exact BK219.out) Try.underlying27 rfl (by kernel_rfl)) rfl ?_
       exact ⟨_, er_, by (with_reducible repeat (first | apply Zs | apply Zr | apply Zp)); exact Zt (Zq (p := ⟨gb219, 1, none⟩) (Zq (p := ⟨gb219, 0, none⟩) (Zv HO225.out BK219.out (by decide)) (fun _ hk => hk.2) (.int .i64 t222)) (fun _ hk => hk.2) (.slice Ao23 t223.length co23)) (fun _ hk => trivial), hB_⟩
      replace c17 := Bool.eq_false_iff.mpr c17
      subst c17
      have H1 : (impl_Without.l0 kj2 a1 l0_1 (l0_1.length : Int) 0 (wrap64 (a0_0 - 1)) (([] : List (List Int)))) = some (r1, r2, r3) := by rw [if_neg (show ¬ (false = true) by decide)] at H; exact H
      clear H
      have H := H1
      clear H1
      obtain ⟨y226, hy226⟩ : ∃ y_ : List (List Int), y_ = (([] : List (List Int))) := ⟨_, rfl⟩
      replace H : (impl_Without.l0 kj2 a1 l0_1 (l0_1.length : Int) 0 (wrap64 (a0_0 - 1)) y226) = some (r1, r2, r3) := hy_ hy226 H
      have Ny226 := Aside0.mk hy226
      clear hy226
      have H' := Aside0.mk H
      clear H
      have hnb24 := NB218_219.out
      have hnc24 := NB219_218.out
      obtain ⟨hcz25_0, hcz25_1, hfz25_0, hfz25_1⟩ := c2_ BK218.out
      go_wp2_with (first | ((with_reducible refine ZA (N := 26) rfl ?_); refine Kd.S_lit (Kd.slice 3 (Kd.int .i64)) _ 31 ?hg (N := 26) ?hd (xs := ([] : List (List Int))) (inner := []) (ok := fun _ => True) (okp := fun _ => True) ?hr ?hp (fun _ hk => hk) trivial (Below.refl _ _) (Nat.le_refl _) (by simp) ?_; (case hd => rfl); (case hg => rfl); (case hr => first | (go_simp; done) | (go_simp; rfl)); (case hp => exact (Reps.none _ _)); intro v227 w26 ho27 hb hg_ hnew_; clear hg_ hnew_; (first | rw [← Ny226.out] at ho27 | (simp only [Int.reduceToNat] at ho27; rw [← Ny226.out] at ho27)); have HO228 := Aside0.mk (Kd.S_lower ho27 (Zm hB_)); replace BK218 := Aside0.mk (Zg (bq_ BK218.out) hb); replace BK219 := Aside0.mk (Zg (bq_ BK219.out) hb); replace HB := Aside0.mk (Zh hB_ hb); clear hb ho27; obtain ⟨Ao28, co28, eo28⟩ := ZN HO228.out; subst eo28) | ((with_reducible refine ZA (N := 6) rfl ?_); refine ZC ?hg (N := 6) ?hd (cs := #[.int .i64 0, .slice none 0 0]) (t := 27) ?hr ?_; (case hd => rfl); (case hg => rfl); (case hr => first | (go_simp; done) | (go_simp; rfl)); intro gb229 hg w29 hbox hb; replace HO228 := Aside0.mk (Zz (rS_ HO228.out) hb); have BK229 := Aside0.mk (hbox); have GW229 := Aside0.mk ((hz_ hg : w.heap.size ≤ gb229)); have GE229 := Aside0.mk ((hz_ hg : w.heap.size ≤ gb229)); replace HB := Aside0.mk (Zh hB_ hb); have NB218_229 := Aside0.mk ((by rw [hg]; exact Nat.ne_of_lt (ZS (bq_ BK218.out)) : gb218 ≠ gb229)); have NB229_218 := Aside0.mk ((by rw [hg]; exact Nat.ne_of_gt (ZS (bq_ BK218.out)) : gb229 ≠ gb218)); replace BK218 := Aside0.mk (Zg (bq_ BK218.out) hb); have NB219_229 := Aside0.mk ((by rw [hg]; exact Nat.ne_of_lt (ZS (bq_ BK219.out)) : gb219 ≠ gb229)); have NB229_219 := Aside0.mk ((by rw [hg]; exact Nat.ne_of_gt (ZS (bq_ BK219.out)) : gb229 ≠ gb219)); replace BK219 := Aside0.mk (Zg (bq_ BK219.out) hb); clear hb hbox hg; have hnb30 := NB229_218.out; have hnc30 := NB218_229.out; have hnb31 := NB229_219.out; have hnc31 := NB219_229.out; obtain ⟨hcz32_0, hcz32_1, hfz32_0, hfz32_1⟩ := c2_ BK229.out; obtain ⟨hcz33_0, hcz33_1, hfz33_0, hfz33_1⟩ := c2_ BK218.out))
      go_loopg [31] kj2 (fun kq v31 w' => ∃ (x31_2 : Int) (x230001_2 : List (List Int)) (u230001 : Value), v31 = .int .i64 x31_2 ∧ Aside0 (impl_Without.l0 kq a1 l0_1 (l0_1.length : Int) x31_2 (wrap64 (a0_0 - 1)) x230001_2 = some (r1, r2, r3)) ∧ Aside0 (kq ≤ kj2) ∧ Aside0 (Kd.S (Kd.slice 3 (Kd.int .i64)) 31 w' w.heap.size (fun _ => True) u230001 x230001_2) ∧ Aside0 (w'.heap[gb218]? = some (.cells #[.int .i64 a0_0, (.slice A0_1 l0_1.length c0_1)] 27 (0, 0))) ∧ Aside0 (w'.heap[gb219]? = some (.cells #[.int .i64 0, (.slice none 0 0)] 27 (0, 0))) ∧ Aside0 (w'.heap[gb229]? = some (.cells #[.int .i64 (wrap64 (a0_0 - 1)), u230001] 27 (0, 0))) ∧ Aside0 (Below w.heap.size w w'))
      case atStart => exact ⟨(0), (y226), (.slice Ao28 y226.length co28), sm_, H', ⟨Nat.le_refl _⟩, ⟨by (with_reducible repeat (first | apply Zs | apply Zr | apply Zp)); exact Zt (Zq (p := ⟨gb229, 1, none⟩) (Zq (p := ⟨gb229, 0, none⟩) (Zv HO228.out BK229.out (by decide)) (fun _ hk => hk.2) (.int .i64 (wrap64 (a0_0 - 1)))) (fun _ hk => hk.2) (.slice Ao28 y226.length co28)) (fun _ hk => trivial)⟩, ⟨by (with_reducible repeat (first | refine Ze ?_ _ | refine Zf ?_ | refine Zd ?_ _)); refine ZG ?_ NB218_229.out _; (with_reducible repeat (first | refine Ze ?_ _ | refine Zf ?_ | refine Zd ?_ _)); refine ZG ?_ NB218_229.out _; (with_reducible repeat (first | refine Ze ?_ _ | refine Zf ?_ | refine Zd ?_ _)); exact BK218.out⟩, ⟨by (with_reducible repeat (first | refine Ze ?_ _ | refine Zf ?_ | refine Zd ?_ _)); refine ZG ?_ NB219_229.out _; (with_reducible repeat (first | refine Ze ?_ _ | refine Zf ?_ | refine Zd ?_ _)); refine ZG ?_ NB219_229.out _; (with_reducible repeat (first | refine Ze ?_ _ | refine Zf ?_ | refine Zd ?_ _)); exact BK219.out⟩, ⟨by (with_reducible repeat (first | refine Ze ?_ _ | refine Zf ?_ | refine Zd ?_ _)); refine ZB (cs := #[.int .i64 (wrap64 (a0_0 - 1)), .slice none 0 0]) ?_ 1 _ rfl; (with_reducible repeat (first | refine Ze ?_ _ | refine Zf ?_ | refine Zd ?_ _)); refine ZB (cs := #[.int .i64 0, .slice none 0 0]) ?_ 0 _ rfl; (with_reducible repeat (first | refine Ze ?_ _ | refine Zf ?_ | refine Zd ?_ _)); exact BK229.out⟩, ⟨hB_⟩⟩
      case round =>
        clear H'
        try clear c1
        try clear c2
        try clear p2
        try clear c3
        try clear c4
        try clear c5
        try clear p6
        try clear c7
        try clear c9
        try clear c14
        try clear c17
        try clear c19
        try clear c24
        try clear c30
        try clear c31
        try clear hcz10_0
        try clear hcz10_1
        try clear hcz12_0
        try clear hcz12_1
        try clear hcz15_0
        try clear hcz15_1
        try clear hcz20_0
        try clear hcz20_1
        try clear hcz22_0
        try clear hcz22_1
        try clear hcz25_0
        try clear hcz25_1
        try clear hcz32_0
        try clear hcz32_1
        try clear hcz33_0
        try clear hcz33_1
        try clear hfz10_0
        try clear hfz10_1
        try clear hfz12_0
        try clear hfz12_1
        try clear hfz15_0
        try clear hfz15_1
        try clear hfz20_0
        try clear hfz20_1
        try clear hfz22_0
        try clear hfz22_1
        try clear hfz25_0
        try clear hfz25_1
        try clear hfz32_0
        try clear hfz32_1
        try clear hfz33_0
        try clear hfz33_1
        try clear p2
        obtain ⟨x31_2, x230001_2, u230001, rfl, HA, HK2, HO_230001, BK218, BK219, BK229, HB⟩ := hrel
        cases gk with
        | zero => exact absurd HA.out (by simp [impl_Without.l0])
        | succ k2 =>
          have H := HA.out
          clear HA
          simp only [impl_Without.l0] at H
          by_cases c34 : x31_2 < (l0_1.length : Int)
          rotate_left
          ·rw [if_neg c34] at H
           have c34b0 : decide (x31_2 < (l0_1.length : Int)) = false := decide_eq_false c34
           clear c34
           simp only [Option.some.injEq, Prod.mk.injEq] at H
           obtain ⟨rfl, rfl, rfl⟩ := H
           have hnb56 := NB229_218.out
           have hnc56 := NB218_229.out
           have hnb57 := NB229_219.out
           have hnc57 := NB219_229.out
           obtain ⟨hcz58_0, hcz58_1, hfz58_0, hfz58_1⟩ := c2_ BK229.out
           have hnb59 := NB219_218.out
           have hnc59 := NB218_219.out
           obtain ⟨hcz60_0, hcz60_1, hfz60_0, hfz60_1⟩ := c2_ BK219.out
           obtain ⟨Ao61, co61, eo61⟩ := ZN HO_230001.out
           subst eo61
           go_wp2
           refine bodyPost_ret (results_ct rfl _ _ gb219 27 #[.int .i64 (wrap64 (a0_0 - 1)), .slice Ao61 x230001_2.length co61] (0, 0) _ rfl (by (with_reducible repeat (first | refine Ze ?_ _ | refine Zf ?_ | refine Zd ?_ _)); refine ZB (cs := #[.int .i64 (wrap64 (a0_0 - 1)), .slice none 0 0]) ?_ 1 _ rfl; (with_reducible repeat (first | refine Ze ?_ _ | refine Zf ?_ | refine Zd ?_ _)); refine ZB (cs := #[.int .i64 0, .slice none 0 0]) ?_ 0 _ rfl; (with_reducible repeat (first | refine Ze ?_ _ | refine Zf ?_ | refine Zd ?_ _)); exact BK219.out) Try.underlying27 rfl (by kernel_rfl)) rfl ?_
           exact ⟨_, er_, by (with_reducible repeat (first | apply Zs | apply Zr | apply Zp)); exact Zt (Zq (p := ⟨gb219, 1, none⟩) (Zq (p := ⟨gb219, 0, none⟩) (Zv HO_230001.out BK219.out (by decide)) (fun _ hk => hk.2) (.int .i64 (wrap64 (a0_0 - 1)))) (fun _ hk => hk.2) (.slice Ao61 x230001_2.length co61)) (fun _ hk => trivial), hB_⟩
          rw [if_pos c34] at H
          have c34b0 : decide (x31_2 < (l0_1.length : Int)) = true := decide_eq_true c34
          clear c34
          by_cases c35 : 0 ≤ x31_2
          rotate_left
          ·rw [if_neg c35] at H
           exact absurd H (by simp)
          rw [if_pos c35] at H
          have c35b0 : decide (0 ≤ x31_2) = true := decide_eq_true c35
          clear c35
          by_cases c36 : x31_2 < (l0_1.length : Int)
          rotate_left
          ·rw [if_neg c36] at H
           exact absurd H (by simp)
          rw [if_pos c36] at H
          have c36b0 : decide (x31_2 < (l0_1.length : Int)) = true := decide_eq_true c36
          clear c36
          obtain ⟨t231, A37, H⟩ := bd_ H
          try dsimp only at H
          by_cases c38 : t231 = true
          ·subst c38
           have H1 : (impl_Without.l0 k2 a1 l0_1 (l0_1.length : Int) (wrap64 (x31_2 + 1)) (wrap64 (a0_0 - 1)) x230001_2) = some (r1, r2, r3) := by rw [if_pos rfl] at H; exact H
           clear H
           have H := H1
           clear H1
           have H' := Aside0.mk H
           clear H
           have p230 : 0 ≤ (x31_2 : Int) := of_decide_eq_true as_
           have q230 : x31_2 < (l0_1.length : Int) := of_decide_eq_true as_
           obtain ⟨ad230, A230_0, c230_0, e230, hx230_0, hl230_0, hi230_0⟩ := at_L2 HR0_1.out x31_2 p230 q230
           cases e230
           replace hx230_0 := (HB.out.cell (World.block_lt_of_cell? w _ hx230_0)).trans hx230_0
           have HR230_0 := Aside0.mk hi230_0
           have HC230_0 := Aside0.mk hl230_0
           clear hi230_0 hl230_0
           replace p230 := eq_true p230
           replace q230 := eq_true q230
           go_wp2_with (first | ((with_reducible refine Zl (f := 80) rfl ?_); refine ZI (some 37) rfl rfl Try.func80 (by kernel_rfl) rfl #[.slice A230_0 (rd_L2 l0_1 x31_2).length c230_0, .int .i64 a1] rfl ar_ ?_; (with_reducible refine (slices_Contains_int_int.calls k2 _ _ (rd_L2 l0_1 x31_2) a1 true _ ?side1 ?side2 A37.out).mono ?_); (case side1 => exact cb_ HR230_0.out); (case side2 => exact HC230_0.out); rintro e w' ⟨rfl, ⟨nd, rfl⟩⟩; refine ⟨_, rfl, ?_⟩))
           go_roundg k2
           case measure => have := HJ2.out; have := HK2.out; omega
           case rel => exact ⟨(wrap64 (x31_2 + 1)), (x230001_2), (u230001), sm_, H', ⟨by have := HJ2.out; have := HK2.out; omega⟩, ⟨rS_ HO_230001.out⟩, ⟨bk_ BK218.out⟩, ⟨bk_ BK219.out⟩, ⟨bk_ BK229.out⟩, ⟨hB_⟩⟩
          replace c38 := Bool.eq_false_iff.mpr c38
          subst c38
          have H1 : ((slices_Clone_int_int.f (rd_L2 l0_1 x31_2)).bind fun t232 => (impl_Without.l1 k2 a1 t232 l0_1 (l0_1.length : Int) x31_2 (t232.length : Int) 0 (wrap64 (a0_0 - 1)) x230001_2)) = some (r1, r2, r3) := by rw [if_neg (show ¬ (false = true) by decide)] at H; exact H
          clear H
          have H := H1
          clear H1
          obtain ⟨t232, A39, H⟩ := bd_ H
          try dsimp only at H
          have H' := Aside0.mk H
          clear H
          have p230 : 0 ≤ (x31_2 : Int) := of_decide_eq_true as_
          have q230 : x31_2 < (l0_1.length : Int) := of_decide_eq_true as_
          obtain ⟨ad230, A230_0, c230_0, e230, hx230_0, hl230_0, hi230_0⟩ := at_L2 HR0_1.out x31_2 p230 q230
          cases e230
          replace hx230_0 := (HB.out.cell (World.block_lt_of_cell? w _ hx230_0)).trans hx230_0
          have HR230_0 := Aside0.mk hi230_0
          have HC230_0 := Aside0.mk hl230_0
          clear hi230_0 hl230_0
          replace p230 := eq_true p230
          replace q230 := eq_true q230
          go_wp2_with (first | ((with_reducible refine Zl (f := 80) rfl ?_); refine ZI (some 37) rfl rfl Try.func80 (by kernel_rfl) rfl #[.slice A230_0 (rd_L2 l0_1 x31_2).length c230_0, .int .i64 a1] rfl ar_ ?_; (with_reducible refine (slices_Contains_int_int.calls k2 _ _ (rd_L2 l0_1 x31_2) a1 false _ ?side1 ?side2 A37.out).mono ?_); (case side1 => exact cb_ HR230_0.out); (case side2 => exact HC230_0.out); rintro e w' ⟨rfl, ⟨nd, rfl⟩⟩; refine ⟨_, rfl, ?_⟩) | ((with_reducible refine Zl (f := 94) rfl ?_); refine ZI (some 39) rfl rfl Try.func94 (by kernel_rfl) rfl #[.slice A230_0 (rd_L2 l0_1 x31_2).length c230_0] rfl ar_ ?_; (with_reducible refine (slices_Clone_int_int.calls _ _ (rd_L2 l0_1 x31_2) t232 _ ?side1 ?side2 A39.out).mono ?_); (case side1 => exact sA_ (Kd.C_below HR230_0.out hB_)); (case side2 => exact HC230_0.out); rintro e w40 ⟨v233, rfl, ho0, hb⟩; refine ⟨_, rfl, ?_⟩; replace HO_230001 := Aside0.mk (Kd.S_elder' (rS_ HO_230001.out) (Kd.R_base ho0) hb); have HO234 := Aside0.mk (Kd.R_lower ho0 (Zm hB_)); replace BK218 := Aside0.mk (Zg (bq_ BK218.out) hb); replace BK219 := Aside0.mk (Zg (bq_ BK219.out) hb); replace BK229 := Aside0.mk (Zg (bq_ BK229.out) hb); replace HB := Aside0.mk (Zh hB_ hb); (try clear hb); (try clear ho0); obtain ⟨Ao41, co41, eo41⟩ := Kd.R_slice HO234.out; subst eo41))
          go_loopg [42] k2 (fun kq v42 w' => ∃ (x9_3 : List Int) (x42_3 : Int), v42 = .int .i64 x42_3 ∧ Aside0 (impl_Without.l1 kq a1 x9_3 l0_1 (l0_1.length : Int) x31_2 (t232.length : Int) x42_3 (wrap64 (a0_0 - 1)) x230001_2 = some (r1, r2, r3)) ∧ Aside0 (kq ≤ k2) ∧ Aside0 (Kd.R (Kd.int .i64) 3 w' w.heap.size (fun _ => True) (.slice Ao41 t232.length co41) x9_3) ∧ Aside0 (Kd.S (Kd.slice 3 (Kd.int .i64)) 31 w' w.heap.size (fun k_ => some k_ ≠ ((.slice Ao41 t232.length co41) : Value).ownBlock) u230001 x230001_2) ∧ Aside0 (w'.heap[gb218]? = some (.cells #[.int .i64 a0_0, (.slice (some ad230) l0_1.length c0_1)] 27 (0, 0))) ∧ Aside0 (w'.heap[gb219]? = some (.cells #[.int .i64 0, (.slice none 0 0)] 27 (0, 0))) ∧ Aside0 (w'.heap[gb229]? = some (.cells #[.int .i64 (wrap64 (a0_0 - 1)), u230001] 27 (0, 0))) ∧ Aside0 (Below w.heap.size w w'))
          case atStart => exact ⟨(t232), (0), sm_, H', ⟨Nat.le_refl _⟩, ⟨rR_ HO234.out⟩, ⟨by (with_reducible repeat (first | apply Zs | apply Zr | apply Zp)); exact Zt HO_230001.out (fun _ hk => hk.2)⟩, ⟨bk_ BK218.out⟩, ⟨bk_ BK219.out⟩, ⟨bk_ BK229.out⟩, ⟨hB_⟩⟩
          case round =>
            clear H'
            try clear c1
            try clear c2
            try clear p2
            try clear q2
            try clear hx2
            try clear c3
            try clear c4
            try clear c5
            try clear p6
            try clear c7
            try clear c9
            try clear c14
            try clear c17
            try clear c19
            try clear c23
            try clear p23
            try clear q23
            try clear hx23
            try clear c24
            try clear c30
            try clear c31
            try clear c34
            try clear c34b0
            try clear c35
            try clear c35b0
            try clear c36
            try clear c36b0
            try clear c38
            try clear hcz10_0
            try clear hcz10_1
            try clear hcz12_0
            try clear hcz12_1
            try clear hcz15_0
            try clear hcz15_1
            try clear hcz20_0
            try clear hcz20_1
            try clear hcz22_0
            try clear hcz22_1
            try clear hcz25_0
            try clear hcz25_1
            try clear hcz32_0
            try clear hcz32_1
            try clear hcz33_0
            try clear hcz33_1
            try clear hfz10_0
            try clear hfz10_1
            try clear hfz12_0
            try clear hfz12_1
            try clear hfz15_0
            try clear hfz15_1
            try clear hfz20_0
            try clear hfz20_1
            try clear hfz22_0
            try clear hfz22_1
            try clear hfz25_0
            try clear hfz25_1
            try clear hfz32_0
            try clear hfz32_1
            try clear hfz33_0
            try clear hfz33_1
            try clear hx230_0
            try clear p2
            try clear p230
            try clear p6
            try clear q230
            obtain ⟨x9_3, x42_3, rfl, HA, HK3, HO_9, HO_230001, BK218, BK219, BK229, HB⟩ := hrel
            have hl9_3 := (ZF HO_9.out).1
            rw [hl9_3] at HO_9
            (try simp only [hl9_3])
            (try simp only [hl9_3] at BK218)
            (try simp only [hl9_3] at BK219)
            (try simp only [hl9_3] at BK229)
            (try simp only [hl9_3] at HO_230001)
            cases gk with
            | zero => exact absurd HA.out (by simp [impl_Without.l1])
            | succ k3 =>
              have H := HA.out
              clear HA
              simp only [impl_Without.l1] at H
              by_cases c42 : x42_3 < (t232.length : Int)
              rotate_left
              ·rw [if_neg c42] at H
               have c42b0 : decide (x42_3 < (t232.length : Int)) = false := decide_eq_false c42
               (try (have c42z := c42b0; rw [hl9_3] at c42z))
               clear c42
               by_cases c49 : x230001_2.length < 5864062014805
               rotate_left
               ·rw [if_neg c49] at H
                exact absurd H (by simp)
               rw [if_pos c49] at H
               have LMc49 := Aside0.mk c49
               clear c49
               obtain ⟨y238, hy238⟩ : ∃ y_ : List (List Int), y_ = (x230001_2 ++ [x9_3]) := ⟨_, rfl⟩
               replace H : (impl_Without.l0 k3 a1 l0_1 (l0_1.length : Int) (wrap64 (x31_2 + 1)) (wrap64 (a0_0 - 1)) y238) = some (r1, r2, r3) := hy_ hy238 H
               have Ny238 := Aside0.mk hy238
               clear hy238
               have H' := Aside0.mk H
               clear H
               have hnb50 := NB229_218.out
               have hnc50 := NB218_229.out
               have hnb51 := NB229_219.out
               have hnc51 := NB219_229.out
               obtain ⟨hcz52_0, hcz52_1, hfz52_0, hfz52_1⟩ := c2_ BK229.out
               go_wp2_with (first | ((with_reducible refine gate_builtin (b := .append) (xs := #[.tmp 58, .tmp 60]) rfl ?_); at_builtin; refine Kd.S_append (Kd.slice 3 (Kd.int .i64)) (w0 := w) w.heap.size rfl (.tmp 58) (.tmp 60) 22 31 (.slice none 0 0) 24 rfl Try.underlying22 info31 rfl (by decide) (by omega) u230001 x230001_2 x9_3 [.slice Ao41 x9_3.length co41] (fun _ => True) (fun k_ => some k_ = (.slice Ao41 x9_3.length co41 : Value).ownBlock) rfl rfl ?aP (fun k_ hk_ => ((Zw (ok' := fun k_ => ((fun _ => True)) k_ ∧ some k_ ≠ (u230001 : Value).ownBlock) (Kd.R_apart' (HO_9.out) (Kd.S_typed HO_230001.out) (by decide)) (fun k_ hk => ⟨trivial, hk.2⟩))).1 k_ hk_.symm) ?aF ?aO ?aB ?aS ?aL ?_; (case aP => exact Kd.M_row (Zw (Kd.R_tight rfl (Zw (ok' := fun k_ => ((fun _ => True)) k_ ∧ some k_ ≠ (u230001 : Value).ownBlock) (Kd.R_apart' (HO_9.out) (Kd.S_typed HO_230001.out) (by decide)) (fun k_ hk => ⟨trivial, hk.2⟩))) (fun _ h_ => h_))); (case aB => exact hB_); (case aF => exact (fun _ _ => trivial)); (case aO => exact (by (with_reducible repeat (first | apply Zs | apply Zr | apply Zp)); exact Zt HO_230001.out (fun k_ hk => ⟨trivial, fun e_ => hk e_⟩))); (case aS => exact (Zm hB_)); (case aL => have := LMc49.out; omega); intro v239 w53 ho hb hg hat; rw [← Ny238.out] at ho; have n0_ := Aside0.mk (ZT (bq_ BK218.out) hg (Kd.S_ne HO_230001.out BK218.out (by decide))); have n1_ := Aside0.mk (ZT (bq_ BK219.out) hg (Kd.S_ne HO_230001.out BK219.out (by decide))); have n2_ := Aside0.mk (ZT (bq_ BK229.out) hg (Kd.S_ne HO_230001.out BK229.out (by decide))); have n3_ := Aside0.mk (hb); have n4_ := Aside0.mk (ho); clear BK218; clear BK219; clear BK229; clear HB; clear HO_230001; clear HO_9; have BK218 := n0_; have BK219 := n1_; have BK229 := n2_; have HB := n3_; have HO240 := n4_; clear n0_ n1_ n2_ n3_ n4_; clear ho hb hg hat; obtain ⟨Ao54, co54, eo54⟩ := ZN HO240.out; subst eo54; obtain ⟨hcz55_0, hcz55_1, hfz55_0, hfz55_1⟩ := c2_ BK229.out))
               (try simp only [← hl9_3])
               go_roundg k3
               case measure => have := HJ2.out; have := HK2.out; have := HK3.out; omega
               case rel => exact ⟨(wrap64 (x31_2 + 1)), (y238), (.slice Ao54 y238.length co54), sm_, H', ⟨by have := HJ2.out; have := HK2.out; have := HK3.out; omega⟩, ⟨by (try simp only [hl9_3]); (with_reducible repeat (first | apply Zs | apply Zr | apply Zp)); exact Zt (Zq (p := ⟨gb229, 1, none⟩) (Zv HO240.out BK229.out (by decide)) (fun _ hk => hk.2) (.slice Ao54 y238.length co54)) (fun _ hk => trivial)⟩, ⟨by (try simp only [hl9_3]); (with_reducible repeat (first | refine Ze ?_ _ | refine Zf ?_ | refine Zd ?_ _)); refine ZG ?_ NB218_229.out _; (with_reducible repeat (first | refine Ze ?_ _ | refine Zf ?_ | refine Zd ?_ _)); exact BK218.out⟩, ⟨by (try simp only [hl9_3]); (with_reducible repeat (first | refine Ze ?_ _ | refine Zf ?_ | refine Zd ?_ _)); refine ZG ?_ NB219_229.out _; (with_reducible repeat (first | refine Ze ?_ _ | refine Zf ?_ | refine Zd ?_ _)); exact BK219.out⟩, ⟨by (try simp only [hl9_3]); (with_reducible repeat (first | refine Ze ?_ _ | refine Zf ?_ | refine Zd ?_ _)); refine ZB (cs := #[.int .i64 (wrap64 (a0_0 - 1)), u230001]) ?_ 1 _ rfl; (with_reducible repeat (first | refine Ze ?_ _ | refine Zf ?_ | refine Zd ?_ _)); exact BK229.out⟩, ⟨hB_⟩⟩
              rw [if_pos c42] at H
              have c42b0 : decide (x42_3 < (t232.length : Int)) = true := decide_eq_true c42
              (try (have c42z := c42b0; rw [hl9_3] at c42z))
              clear c42
              by_cases c43 : 0 ≤ x42_3
              rotate_left
              ·rw [if_neg c43] at H
               exact absurd H (by simp)
              rw [if_pos c43] at H
              have c43b0 : decide (0 ≤ x42_3) = true := decide_eq_true c43
              clear c43
              by_cases c44 : x42_3 < (x9_3.length : Int)
              rotate_left
              ·rw [if_neg c44] at H
               exact absurd H (by simp)
              rw [if_pos c44] at H
              have c44b0 : decide (x42_3 < (x9_3.length : Int)) = true := decide_eq_true c44
              clear c44
              by_cases c45 : (rd x9_3 x42_3) > a1
              rotate_left
              ·rw [if_neg c45] at H
               have c45b0 : decide (a1 < (rd x9_3 x42_3)) = false := decide_eq_false c45
               clear c45
               have H' := Aside0.mk H
               clear H
               have p235 : 0 ≤ (x42_3 : Int) := of_decide_eq_true as_
               have q235 : x42_3 < (x9_3.length : Int) := of_decide_eq_true as_
               obtain ⟨ad235, e235, hx235_0⟩ := Zx (ZF HO_9.out).2.2 x42_3 p235 q235
               cases e235
               replace p235 := eq_true p235
               replace q235 := eq_true q235
               go_wp2
               (try simp only [← hl9_3])
               go_roundg k3
               case measure => have := HJ2.out; have := HK2.out; have := HK3.out; omega
               case rel => exact ⟨(x9_3), (wrap64 (x42_3 + 1)), sm_, H', ⟨by have := HJ2.out; have := HK2.out; have := HK3.out; omega⟩, ⟨by (try simp only [hl9_3]); (with_reducible repeat (first | apply ZP | apply ZO | apply ZU)); exact HO_9.out⟩, ⟨by (try simp only [hl9_3]); (with_reducible repeat (first | apply Zs | apply Zr | apply Zp)); exact HO_230001.out⟩, ⟨by (try simp only [hl9_3]); (with_reducible repeat (first | refine Ze ?_ _ | refine Zf ?_ | refine Zd ?_ _)); exact BK218.out⟩, ⟨by (try simp only [hl9_3]); (with_reducible repeat (first | refine Ze ?_ _ | refine Zf ?_ | refine Zd ?_ _)); exact BK219.out⟩, ⟨by (try simp only [hl9_3]); (with_reducible repeat (first | refine Ze ?_ _ | refine Zf ?_ | refine Zd ?_ _)); exact BK229.out⟩, ⟨hB_⟩⟩
              rw [if_pos c45] at H
              have c45b0 : decide (a1 < (rd x9_3 x42_3)) = true := decide_eq_true c45
              clear c45
              obtain ⟨y237, hy237⟩ : ∃ y_ : List Int, y_ = (x9_3.set (x42_3 : Int).toNat (wrap64 ((rd x9_3 x42_3) - 1))) := ⟨_, rfl⟩
              replace H : (impl_Without.l1 k3 a1 y237 l0_1 (l0_1.length : Int) x31_2 (t232.length : Int) (wrap64 (x42_3 + 1)) (wrap64 (a0_0 - 1)) x230001_2) = some (r1, r2, r3) := hy_ hy237 H
              have Ny237 := Aside0.mk hy237
              clear hy237
              have H' := Aside0.mk H
              clear H
              have p235 : 0 ≤ (x42_3 : Int) := of_decide_eq_true as_
              have q235 : x42_3 < (x9_3.length : Int) := of_decide_eq_true as_
              obtain ⟨ad235, e235, hx235_0⟩ := Zx (ZF HO_9.out).2.2 x42_3 p235 q235
              cases e235
              replace p235 := eq_true p235
              replace q235 := eq_true q235
              have p236 : 0 ≤ (x42_3 : Int) := of_decide_eq_true as_
              have q236 : x42_3 < (x9_3.length : Int) := of_decide_eq_true as_
              obtain ⟨ad236, e236, hx236_0⟩ := Zx (ZF HO_9.out).2.2 x42_3 p236 q236
              obtain rfl : ad235 = ad236 := (by injection e236)
              replace p236 := eq_true p236
              replace q236 := eq_true q236
              have p46 : 0 ≤ (x42_3 : Int) := of_decide_eq_true as_
              have q46 : (x42_3 : Int) < ((x9_3.length : Int) : Int) := of_decide_eq_true as_
              obtain ⟨go46, co46, eo46, gb46, gl46, cl46, HG46⟩ := Kd.R_form HO_9.out (by omega)
              (first | cases eo46 | (injection eo46 with ea_ en_ ec_; (first | subst ea_ | (injection ea_ with ea_; subst ea_)); subst ec_; clear en_))
              have GB46 := Aside0.mk gb46
              have GG46 := Aside0.mk HG46
              clear gb46 gl46 HG46
              (first | simp only [add_plain] at hx235_0 | skip)
              (first | simp only [add_plain] at hx236_0 | skip)
              obtain ⟨hx46_0, hf46_0⟩ := Kd.R_celln 0 HO_9.out (x42_3 : Int) p46 q46
              replace p46 := eq_true p46
              replace q46 := eq_true q46
              have HP47 := Kd.R_putg HO_9.out (x42_3 : Int) (wrap64 ((rd x9_3 x42_3) - 1))
              go_wp2_with (first | ((with_reducible refine gate_store (t := 3) (p := 55) rfl ?_); refine store_event (t := 3) (p := 55) (v := ?vo_w48) (w1 := (wr.setCell ⟨go46, (x42_3 : Int).toNat, none⟩ (.int .i64 (wrap64 ((rd x9_3 x42_3) - 1))))) ?hg ?ho ?hn ?hr ?_; (case ho => rfl); (case hg => rfl); (case hn => rfl); (case hr => first | (go_simp; done) | (go_simp; rfl)); intro w48 hw; have hg : wr.grownBy w48 (some go46) := (by rw [hw]; exact HP47.2); have hp_ : Kd.R (Kd.int .i64) 3 w48 w.heap.size (fun _ => True) (.slice (some ⟨go46, 0, none⟩) x9_3.length co41) y237 := (by rw [hw, Ny237.out]; exact HP47.1); clear HP47; replace HO_230001 := Aside0.mk (Kd.S_after (v := (.slice (some ⟨go46, 0, none⟩) x9_3.length co41)) (v1 := (.slice (some ⟨go46, 0, none⟩) x9_3.length co41)) (ok := (fun _ => True)) (by (with_reducible repeat (first | apply Zs | apply Zr | apply Zp)); exact Zt HO_230001.out (fun _ hk => ⟨trivial, hk⟩)) hg (.inl rfl)); replace BK218 := Aside0.mk (ZT (bq_ BK218.out) hg (Kd.R_ne HO_9.out BK218.out (by decide))); replace BK219 := Aside0.mk (ZT (bq_ BK219.out) hg (Kd.R_ne HO_9.out BK219.out (by decide))); replace BK229 := Aside0.mk (ZT (bq_ BK229.out) hg (Kd.R_ne HO_9.out BK229.out (by decide))); replace HO_9 := Aside0.mk (hp_); replace HB := Aside0.mk ((by rw [hw]; exact Zc (HB.out) GB46.out : Below w.heap.size w w48)); clear hg hw hp_))
              (try simp only [← hl9_3])
              go_roundg k3
              case measure => have := HJ2.out; have := HK2.out; have := HK3.out; omega
              case rel => exact ⟨(y237), (wrap64 (x42_3 + 1)), sm_, H', ⟨by have := HJ2.out; have := HK2.out; have := HK3.out; omega⟩, ⟨by (try simp only [hl9_3]); (with_reducible repeat (first | apply ZP | apply ZO | apply ZU)); exact HO_9.out⟩, ⟨by (try simp only [hl9_3]); (with_reducible repeat (first | apply Zs | apply Zr | apply Zp)); exact Zt HO_230001.out (fun _ hk => hk.2)⟩, ⟨by (try simp only [hl9_3]); (with_reducible repeat (first | refine Ze ?_ _ | refine Zf ?_ | refine Zd ?_ _)); exact BK218.out⟩, ⟨by (try simp only [hl9_3]); (with_reducible repeat (first | refine Ze ?_ _ | refine Zf ?_ | refine Zd ?_ _)); exact BK219.out⟩, ⟨by (try simp only [hl9_3]); (with_reducible repeat (first | refine Ze ?_ _ | refine Zf ?_ | refine Zd ?_ _)); exact BK229.out⟩, ⟨hB_⟩⟩



/-! ### slices_EqualFunc_int_int_int_int: function 95 -/
def rowsAlike.l0 : Nat → List Int → List Int → Int → Int → Option (Bool)
  | 0, _, _, _, _ => none
  | k + 1, x0, x1, x12, x13 => if x13 < x12 then (if 0 ≤ x13 then (if x13 < (x0.length : Int) then (if x13 < (x1.length : Int) then (if (rd x0 x13) = (rd x1 x13) then (rowsAlike.l0 k x0 x1 x12 (wrap64 (x13 + 1))) else (some false)) else (none)) else (none)) else (none)) else (some true)
def rowsAlike.f (k : Nat) (l0 : List Int) (l1 : List Int) : Option (Bool) := if (l0.length : Int) = (l1.length : Int) then (rowsAlike.l0 k l0 l1 (l0.length : Int) 0) else (some false)
theorem rowsAlike.mono_l : ∀ k, (∀ y0 y1 y2 y3, LeO (rowsAlike.l0 k y0 y1 y2 y3) (rowsAlike.l0 (k + 1) y0 y1 y2 y3))
  | 0 => fun _ _ _ _ r h => by simp [rowsAlike.l0] at h
  | k + 1 => by
    have ih0 := rowsAlike.mono_l k
    · intro y0 y1 y2 y3
      unfold rowsAlike.l0
      repeat' with_reducible first | apply ih0 | apply ZJ | apply Zn | refine Zu ?_ ?_ | refine Zo ?_ (fun _ => ?_)
theorem rowsAlike.mono : ∀ a0 a1 k, LeO (rowsAlike.f k a0 a1) (rowsAlike.f (k + 1) a0 a1) := by
  intro a0 a1 k
  have ih0 := rowsAlike.mono_l k
  unfold rowsAlike.f
  repeat' with_reducible first | apply ih0 | apply ZJ | apply Zn | refine Zu ?_ ?_ | refine Zo ?_ (fun _ => ?_)
theorem rowsAlike.calls (k : Nat) (A0 : Option Addr) (c0 : Nat) (l0 : List Int) (A1 : Option Addr) (c1 : Nat) (l1 : List Int) (r : Bool) (w : World) (hr0 : Kd.C (Kd.int .i64) w A0 l0.length l0) (hc0 : l0.length ≤ c0) (hr1 : Kd.C (Kd.int .i64) w A1 l1.length l1) (hc1 : l1.length ≤ c1) (h : rowsAlike.f k l0 l1 = some r) :
    Calls Try.prog 76 #[.slice A0 l0.length c0, .slice A1 l1.length c1] w fun e w' => e = .returned (.bool r) ∧ Drawn0 w w' := by
  have HR0 := Aside0.mk hr0
  have HC0 := Aside0.mk hc0
  clear hr0 hc0
  have HR1 := Aside0.mk hr1
  have HC1 := Aside0.mk hc1
  clear hr1 hc1
  have H := h
  unfold rowsAlike.f at H
  clear h
  by_cases c3 : (l0.length : Int) = (l1.length : Int)
  rotate_left
  ·rw [if_neg c3] at H
   have c3b0 : ((l0.length : Int) == (l1.length : Int)) = false := beq_eq_false_iff_ne.mpr c3
   have c3b1 : ((l0.length : Int) != (l1.length : Int)) = true := bne_iff_ne.mpr c3
   have c3b2 : (l0.length == l1.length) = false := by first | simpa using c3 | (simp at c3 ⊢; omega)
   obtain rfl := Option.some.inj H
   go_enter Try.func76, Try.ntmps76
   go_wp2
   repeat (go_quiet (fail); try go_wp2)
   go_ret
   exact ⟨sm_, dr_⟩
  rw [if_pos c3] at H
  have c3b0 : ((l0.length : Int) == (l1.length : Int)) = true := beq_iff_eq.mpr c3
  have c3b1 : ((l0.length : Int) != (l1.length : Int)) = false := bne_eq_false_iff_eq.mpr c3
  have c3b2 : (l0.length == l1.length) = true := by first | simpa using c3 | (simp at c3 ⊢; omega)
  clear c3
  have H' := Aside0.mk H
  clear H
  go_enter Try.func76, Try.ntmps76
  go_wp2
  repeat (go_quiet (fail); try go_wp2)
  go_loopg [13] k (fun kq v13 w' => ∃ (x13_1 : Int), v13 = .int .i64 x13_1 ∧ Aside0 (rowsAlike.l0 kq l0 l1 (l0.length : Int) x13_1 = some r) ∧ Aside0 (kq ≤ k) ∧ Drawn0 w w')
  case atStart => exact ⟨(0), sm_, H', ⟨Nat.le_refl _⟩, dr_⟩
  case round =>
    clear H'
    try clear c1
    try clear p2
    try clear c3
    try clear c3b0
    try clear c3b1
    try clear c3b2
    obtain ⟨x13_1, rfl, HA, HK1, ⟨m1, rfl⟩⟩ := hrel
    cases gk with
    | zero => exact absurd HA.out (by simp [rowsAlike.l0])
    | succ k1 =>
      have H := HA.out
      clear HA
      simp only [rowsAlike.l0] at H
      by_cases c4 : x13_1 < (l0.length : Int)
      rotate_left
      ·rw [if_neg c4] at H
       have c4b0 : decide (x13_1 < (l0.length : Int)) = false := decide_eq_false c4
       clear c4
       obtain rfl := Option.some.inj H
       go_wp2
       repeat (go_quiet (fail); try go_wp2)
       go_ret
       exact ⟨sm_, dr_⟩
      rw [if_pos c4] at H
      have c4b0 : decide (x13_1 < (l0.length : Int)) = true := decide_eq_true c4
      clear c4
      by_cases c5 : 0 ≤ x13_1
      rotate_left
      ·rw [if_neg c5] at H
       exact absurd H (by simp)
      rw [if_pos c5] at H
      have c5b0 : decide (0 ≤ x13_1) = true := decide_eq_true c5
      clear c5
      by_cases c6 : x13_1 < (l0.length : Int)
      rotate_left
      ·rw [if_neg c6] at H
       exact absurd H (by simp)
      rw [if_pos c6] at H
      have c6b0 : decide (x13_1 < (l0.length : Int)) = true := decide_eq_true c6
      clear c6
      by_cases c7 : x13_1 < (l1.length : Int)
      rotate_left
      ·rw [if_neg c7] at H
       exact absurd H (by simp)
      rw [if_pos c7] at H
      have c7b0 : decide (x13_1 < (l1.length : Int)) = true := decide_eq_true c7
      clear c7
      by_cases c8 : (rd l0 x13_1) = (rd l1 x13_1)
      rotate_left
      ·rw [if_neg c8] at H
       have c8b0 : ((rd l0 x13_1) == (rd l1 x13_1)) = false := beq_eq_false_iff_ne.mpr c8
       have c8b1 : ((rd l0 x13_1) != (rd l1 x13_1)) = true := bne_iff_ne.mpr c8
       obtain rfl := Option.some.inj H
       have p174 : 0 ≤ (x13_1 : Int) := of_decide_eq_true as_
       have q174 : x13_1 < (l0.length : Int) := of_decide_eq_true as_
       obtain ⟨ad174, e174, hx174_0⟩ := Zx HR0.out x13_1 p174 q174
       cases e174
       replace p174 := eq_true p174
       replace q174 := eq_true q174
       have p175 : 0 ≤ (x13_1 : Int) := of_decide_eq_true as_
       have q175 : x13_1 < (l1.length : Int) := of_decide_eq_true as_
       obtain ⟨ad175, e175, hx175_0⟩ := Zx HR1.out x13_1 p175 q175
       cases e175
       replace p175 := eq_true p175
       replace q175 := eq_true q175
       go_wp2
       repeat (go_quiet (fail); try go_wp2)
       go_ret
       exact ⟨sm_, dr_⟩
      rw [if_pos c8] at H
      have c8b0 : ((rd l0 x13_1) == (rd l1 x13_1)) = true := beq_iff_eq.mpr c8
      have c8b1 : ((rd l0 x13_1) != (rd l1 x13_1)) = false := bne_eq_false_iff_eq.mpr c8
      clear c8
      have H' := Aside0.mk H
      clear H
      have p174 : 0 ≤ (x13_1 : Int) := of_decide_eq_true as_
      have q174 : x13_1 < (l0.length : Int) := of_decide_eq_true as_
      obtain ⟨ad174, e174, hx174_0⟩ := Zx HR0.out x13_1 p174 q174
      cases e174
      replace p174 := eq_true p174
      replace q174 := eq_true q174
      have p175 : 0 ≤ (x13_1 : Int) := of_decide_eq_true as_
      have q175 : x13_1 < (l1.length : Int) := of_decide_eq_true as_
      obtain ⟨ad175, e175, hx175_0⟩ := Zx HR1.out x13_1 p175 q175
      cases e175
      replace p175 := eq_true p175
      replace q175 := eq_true q175
      go_wp2
      repeat (go_quiet (fail); try go_wp2)
      go_roundg k1
      case measure => have := HK1.out; omega
      case rel => exact ⟨(wrap64 (x13_1 + 1)), sm_, H', ⟨by have := HK1.out; omega⟩, dr_⟩

-- NOT PRINTED: function 29 (impl_IsPartOf)

-- NOT PRINTED: function 7 (laws_FnExactIsPartOf)
/-- Two rows of rows are the same, row by row. -/
def slices_EqualFunc_int_int_int_int.l0 : Nat → List (List Int) → List (List Int) → Int → Option Bool
  | 0, _, _, _ => none
  | k + 1, x0, x1, x8 => if x8 < (x0.length : Int) then (if 0 ≤ x8 then (if x8 < (x1.length : Int) then ((rowsAlike.f k (rd_L2 x0 x8) (rd_L2 x1 x8)).bind fun t => (if t = true then (slices_EqualFunc_int_int_int_int.l0 k x0 x1 (wrap64 (x8 + 1))) else (some false))) else (none)) else (none)) else (some true)
def slices_EqualFunc_int_int_int_int.f (k : Nat) (l0 : List (List Int)) (l1 : List (List Int)) (a2 : Nat) : Option Bool := if a2 = 76 then (if (l0.length : Int) = (l1.length : Int) then (slices_EqualFunc_int_int_int_int.l0 k l0 l1 0) else (some false)) else none
theorem slices_EqualFunc_int_int_int_int.mono_l : ∀ k, (∀ y0 y1 y2, LeO (slices_EqualFunc_int_int_int_int.l0 k y0 y1 y2) (slices_EqualFunc_int_int_int_int.l0 (k + 1) y0 y1 y2))
  | 0 => fun _ _ _ => by (unfold slices_EqualFunc_int_int_int_int.l0; exact Zn _)
  | k + 1 => by
    have ih0 := slices_EqualFunc_int_int_int_int.mono_l k
    · intro y0 y1 y2
      unfold slices_EqualFunc_int_int_int_int.l0
      repeat' with_reducible first | apply ih0 | apply rowsAlike.mono | apply ZJ | apply Zn | refine Zu ?_ ?_ | refine Zo ?_ (fun _ => ?_)
theorem slices_EqualFunc_int_int_int_int.mono : ∀ a0 a1 a2 k, LeO (slices_EqualFunc_int_int_int_int.f k a0 a1 a2) (slices_EqualFunc_int_int_int_int.f (k + 1) a0 a1 a2) := by
  intro a0 a1 a2 k
  unfold slices_EqualFunc_int_int_int_int.f
  exact Zu (Zu (slices_EqualFunc_int_int_int_int.mono_l k _ _ _) (ZJ _)) (ZJ _)
theorem slices_EqualFunc_int_int_int_int.calls (k : Nat) (A0 : Option Addr) (c0 : Nat) (l0 : List (List Int)) (A1 : Option Addr) (c1 : Nat) (l1 : List (List Int)) (a2 : Nat) (r : Bool) (w : World) (hr0 : Kd.C (Kd.slice 3 (Kd.int .i64)) w A0 l0.length l0) (hc0 : l0.length ≤ c0) (hr1 : Kd.C (Kd.slice 3 (Kd.int .i64)) w A1 l1.length l1) (hc1 : l1.length ≤ c1) (h : slices_EqualFunc_int_int_int_int.f k l0 l1 a2 = some r) :
    Calls Try.prog 95 #[.slice A0 l0.length c0, .slice A1 l1.length c1, .func (.func a2) #[] #[]] w fun e w' => e = .returned (.bool r) ∧ Drawn0 w w' := by
  unfold slices_EqualFunc_int_int_int_int.f at h
  have ha2 : a2 = 76 := by
    by_cases hh : a2 = 76
    ·exact hh
    rw [if_neg hh] at h
    exact absurd h (by simp)
  rw [if_pos ha2] at h
  subst ha2
  have eg : ∀ args w, (callFunc 76 args).run Try.prog w = .ok (.enter 76 args) w := enters_of Try.func76 (by kernel_rfl) rfl
  have HR0 := Aside0.mk hr0
  have HR1 := Aside0.mk hr1
  clear hr0 hr1
  by_cases c2 : (l0.length : Int) = (l1.length : Int)
  rotate_left
  ·rw [if_neg c2] at h
   have c2b1 : ((l0.length : Int) != (l1.length : Int)) = true := bne_iff_ne.mpr c2
   clear c2
   obtain rfl := Option.some.inj h
   go_enter Try.func95, Try.ntmps95
   go_wp2
   go_ret
   exact ⟨rfl, dr_⟩
  rw [if_pos c2] at h
  have c2b1 : ((l0.length : Int) != (l1.length : Int)) = false := bne_eq_false_iff_eq.mpr c2
  have LE := Aside0.mk c2
  clear c2
  have H' := Aside0.mk h
  clear h
  go_enter Try.func95, Try.ntmps95
  go_wp2
  go_loopg [7, 8, 9, 17] k (fun kq _ _ _ v17 w' => ∃ (x8_1 : Int), v17 = .int .i64 x8_1 ∧ Aside0 (slices_EqualFunc_int_int_int_int.l0 kq l0 l1 x8_1 = some r) ∧ Aside0 (kq ≤ k) ∧ Drawn0 w w')
  case atStart => exact ⟨0, rfl, H', ⟨Nat.le_refl _⟩, dr_⟩
  case round =>
    clear H'
    obtain ⟨x8_1, rfl, HA, HK1, ⟨m1, rfl⟩⟩ := hrel
    cases gk with
    | zero => exact absurd HA.out (by simp [slices_EqualFunc_int_int_int_int.l0])
    | succ k1 =>
      have H := HA.out
      clear HA
      simp only [slices_EqualFunc_int_int_int_int.l0] at H
      by_cases c3 : x8_1 < (l0.length : Int)
      rotate_left
      ·rw [if_neg c3] at H
       have c3b0 : decide (x8_1 < (l0.length : Int)) = false := decide_eq_false c3
       clear c3
       obtain rfl := Option.some.inj H
       go_wp2
       go_ret
       exact ⟨rfl, dr_⟩
      rw [if_pos c3] at H
      have c3b0 : decide (x8_1 < (l0.length : Int)) = true := decide_eq_true c3
      by_cases c4 : 0 ≤ x8_1
      rotate_left
      ·rw [if_neg c4] at H
       exact absurd H (by simp)
      rw [if_pos c4] at H
      have c4b0 : decide (0 ≤ x8_1) = true := decide_eq_true c4
      have c5 : x8_1 < (l1.length : Int) := by have := LE.out; omega
      rw [if_pos c5] at H
      have c5b0 : decide (x8_1 < (l1.length : Int)) = true := decide_eq_true c5
      replace H := Option.bind_eq_some_iff.mp H
      obtain ⟨t102, A60, H⟩ := H
      try dsimp only at H
      have p101 : 0 ≤ (x8_1 : Int) := c4
      have q101 : x8_1 < (l0.length : Int) := c3
      have q102 : x8_1 < (l1.length : Int) := c5
      clear c3 c4 c5
      obtain ⟨ad101, A101_0, c101_0, e101, hx101_0, hl101_0, hi101_0⟩ := at_L2 HR0.out x8_1 p101 q101
      cases e101
      obtain ⟨ad102, A102_0, c102_0, e102, hx102_0, hl102_0, hi102_0⟩ := at_L2 HR1.out x8_1 p101 q102
      cases e102
      have hcall := fun (n : Nat) => (show Calls Try.prog 76 (#[.slice A101_0 (rd_L2 l0 x8_1).length c101_0, .slice A102_0 (rd_L2 l1 x8_1).length c102_0] ++ #[]) (w.drewN n) fun e w' => e = .returned (.bool t102) ∧ Drawn0 (w.drewN n) w' from rowsAlike.calls k1 A101_0 c101_0 (rd_L2 l0 x8_1) A102_0 c102_0 (rd_L2 l1 x8_1) t102 (w.drewN n) (ZH hi101_0 _) hl101_0 (ZH hi102_0 _) hl102_0 A60)
      clear hi101_0 hl101_0 hi102_0 hl102_0 A60
      replace p101 := eq_true p101
      replace q101 := eq_true q101
      replace q102 := eq_true q102
      cases t102 with
      | true =>
        rw [if_pos rfl] at H
        have H' := Aside0.mk H
        clear H
        go_wp2_with (go_at_call 76; refine (hcall _).mono ?_; rintro e w' ⟨rfl, ⟨nd, rfl⟩⟩)
        go_roundg k1
        case measure => have := HK1.out; omega
        case rel => exact ⟨(wrap64 (x8_1 + 1)), sm_, H', ⟨by have := HK1.out; omega⟩, dr_⟩
      | false =>
        rw [if_neg (by decide)] at H
        obtain rfl := Option.some.inj H
        go_wp2_with (go_at_call 76; refine (hcall _).mono ?_; rintro e w' ⟨rfl, ⟨nd, rfl⟩⟩)
        go_ret
        exact ⟨rfl, dr_⟩

end Go.Proofs.Ytdlobolnajcfnaa.PFnDisputes
