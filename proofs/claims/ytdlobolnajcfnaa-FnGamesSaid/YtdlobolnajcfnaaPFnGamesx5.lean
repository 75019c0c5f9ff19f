-- Written by a program of this session (hooks of mine on the print): Lean checks it.
import Derived.Test.YtdlobolnajcfnaaPFnGamesx0
import Derived.Test.YtdlobolnajcfnaaPFnGamesx1
import Derived.Test.YtdlobolnajcfnaaPFnGamesx2
import Derived.Test.YtdlobolnajcfnaaPFnGamesx3
import Derived.Test.YtdlobolnajcfnaaPFnGamesx4
namespace Go.Proofs.Ytdlobolnajcfnaa.PFnGames
open Go.RowKit Go.Proofs.YtdlobolnajcfnaaW.PrintWords Go.Proofs.YtdlobolnajcfnaaW.PrintLast Go.Proofs.YtdlobolnajcfnaaW.PrintMore
attribute [local go_sem] max2_int min2_int max_two min_two max_three min_three max_four min_four   -- for this text's walks alone
set_option linter.unusedVariables false
set_option linter.unusedSimpArgs false

/-! ### impl_CanWin: function 12 -/
def impl_CanWin.f (k : Nat) (a0_0 : Int) (l0_1 : List (List Int)) (a1 : Int) : Option (Bool) := (impl_IsGraph.f k a0_0 l0_1).bind fun t228 => (if t228 = true then ((impl_isClaim.f a0_0 l0_1 a1).bind fun t229 => (if t229 = true then (if 0 ≤ a1 then ((impl_wins.f k a0_0 l0_1 (shl .i64 1 a1) a1).bind fun t230 => (some t230)) else (none)) else (some false))) else (some false))
theorem impl_CanWin.mono : ∀ a0 a1 a2 k, LeO (impl_CanWin.f k a0 a1 a2) (impl_CanWin.f (k + 1) a0 a1 a2) := by
  intro a0 a1 a2 k
  unfold impl_CanWin.f
  repeat' first
      | (with_reducible exact impl_IsGraph.mono _ _ _)
      | (with_reducible exact impl_wins.mono _ _ _ _ _)
      | (with_reducible exact ZJ _)
      | (with_reducible exact Zn _)
      | (with_reducible refine Zt ?_ ?_)
      | (with_reducible refine Zo ?_ (fun _ => ?_))
      | exact impl_IsGraph.mono _ _ _
      | exact impl_wins.mono _ _ _ _ _
      | exact Zn _
      | refine Zt ?_ ?_
      | refine Zo ?_ (fun _ => ?_)
def impl_CanWin.T1 : Bool × List (List Nat × List Nat) := (true, [([], []), ([0], [0]), ([1, 1], [1]), ([2], [2]), ([2], [2]), ([3, 4, 2, 2], [2, 3, 4]), ([2, 5], [2, 5]), ([6, 5], [6]), ([7], [7]), ([7], [7]), ([9, 7], [7, 9]), ([7], [7]), ([7], [7]), ([8, 10, 11, 12, 7, 7], [7, 8, 10, 11, 12]), ([7, 13], [7, 13]), ([14, 13, 0, 1, 2, 3, 4, 5, 6, 7, 8, 9, 10, 11, 12, 13, 14], [14])])
def impl_CanWin.B1 : List Nat := [0, 1, 3, 7, 7, 31, 63, 127, 255, 255, 767, 255, 255, 8191, 16383, 32767]
theorem impl_CanWin.tab1 : rtab .any (opsOf Try.f12 1) = impl_CanWin.T1 := by kernel_rfl
theorem impl_CanWin.bits1 : waitsOk impl_CanWin.T1.2 impl_CanWin.B1 = true := by kernel_rfl
set_option maxHeartbeats 8000000 in
set_option maxRecDepth 100000 in
theorem impl_CanWin.calls (k : Nat) (a0_0 : Int) (A0_1 : Option Addr) (c0_1 : Nat) (l0_1 : List (List Int)) (a1 : Int) (r : Bool) (w : World) (hr0_1 : Kd.C (Kd.slice 3 (Kd.int .i64)) w A0_1 l0_1.length l0_1) (hc0_1 : l0_1.length ≤ c0_1) (h : impl_CanWin.f k a0_0 l0_1 a1 = some r) :
    Calls Try.prog 12 #[.agg #[.int .i64 a0_0, .slice A0_1 l0_1.length c0_1], .int .i64 a1] w fun e w' => e = .returned (.bool r) ∧ Below w.heap.size w w' := by
  have hu27 := Try.underlying27
  have HR0_1 := Aside0.mk hr0_1
  have HC0_1 := Aside0.mk hc0_1
  clear hr0_1 hc0_1
  have HB := Aside0.mk (Below.refl w.heap.size w)
  have H : ((impl_IsGraph.f k a0_0 l0_1).bind fun t228 => (if t228 = true then ((impl_isClaim.f a0_0 l0_1 a1).bind fun t229 => (if t229 = true then (if 0 ≤ a1 then ((impl_wins.f k a0_0 l0_1 (shl .i64 1 a1) a1).bind fun t230 => (some t230)) else (none)) else (some false))) else (some false))) = some r := h
  clear h
  replace H := Option.bind_eq_some_iff.mp H
  obtain ⟨t228, A30, H⟩ := H
  replace H : (if t228 = true then ((impl_isClaim.f a0_0 l0_1 a1).bind fun t229 => (if t229 = true then (if 0 ≤ a1 then ((impl_wins.f k a0_0 l0_1 (shl .i64 1 a1) a1).bind fun t230 => (some t230)) else (none)) else (some false))) else (some false)) = some r := H
  have A3 := Aside0.mk A30
  clear A30
  by_cases c4 : t228 = true
  · subst c4
    have H1 : ((impl_isClaim.f a0_0 l0_1 a1).bind fun t229 => (if t229 = true then (if 0 ≤ a1 then ((impl_wins.f k a0_0 l0_1 (shl .i64 1 a1) a1).bind fun t230 => (some t230)) else (none)) else (some false))) = some r := by rw [if_pos rfl] at H; exact H
    clear H
    have H := H1
    clear H1
    replace H := Option.bind_eq_some_iff.mp H
    obtain ⟨t229, A50, H⟩ := H
    replace H : (if t229 = true then (if 0 ≤ a1 then ((impl_wins.f k a0_0 l0_1 (shl .i64 1 a1) a1).bind fun t230 => (some t230)) else (none)) else (some false)) = some r := H
    have A5 := Aside0.mk A50
    clear A50
    by_cases c6 : t229 = true
    · subst c6
      have H1 : (if 0 ≤ a1 then ((impl_wins.f k a0_0 l0_1 (shl .i64 1 a1) a1).bind fun t230 => (some t230)) else (none)) = some r := by rw [if_pos rfl] at H; exact H
      clear H
      have H := H1
      clear H1
      by_cases c7 : 0 ≤ a1
      · rw [if_pos c7] at H
        have c7b0 := eq_true c7
        have c7b1 : decide (0 ≤ a1) = true := decide_eq_true c7
        clear c7
        obtain ⟨ji8, hji8⟩ : ∃ j_ : Int, (shl .i64 1 a1) = j_ := ⟨_, rfl⟩
        replace H : ((impl_wins.f k a0_0 l0_1 (ji8) a1).bind fun t230 => (some t230)) = some r := by first | (rw [hji8] at H; exact H) | (simp only [hji8] at H ⊢; exact H)
        (try rw [hji8] at A3)
        (try rw [hji8] at A5)
        have hji8_ : (IntKind.i64.wrap (1 * 2 ^ min a1.toNat 64)) = ji8 := hji8
        have hji8z : a1 ≤ 64 → (IntKind.i64.wrap (1 * 2 ^ a1.toNat)) = ji8 := shl_small hji8
        have hji8u : (IntKind.i64.wrap (2 ^ min a1.toNat 64)) = ji8 := by have h_ := hji8_; rw [Int.one_mul] at h_; exact h_
        have hji8v : a1 ≤ 64 → (IntKind.i64.wrap (2 ^ a1.toNat)) = ji8 := fun hle_ => by have h_ := hji8z hle_; rw [Int.one_mul] at h_; exact h_
        have hji8y : (wrap64 (1 * 2 ^ min a1.toNat 64)) = ji8 := (i64_w _).symm.trans hji8_
        have hji8x : a1 ≤ 64 → (wrap64 (1 * 2 ^ a1.toNat)) = ji8 := fun h_ => (i64_w _).symm.trans (hji8z h_)
        replace H := Option.bind_eq_some_iff.mp H
        obtain ⟨t230, A90, H⟩ := H
        replace H : (some t230) = some r := H
        have A9 := Aside0.mk A90
        clear A90
        obtain rfl := Option.some.inj H
        go_enter Try.func12, Try.ntmps12
        try go_wp2_with (first | ((with_reducible refine ZD (N := 2) rfl ?_); refine ZH ?hg (N := 2) ?hd (cs := #[.int .i64 a0_0, .slice A0_1 l0_1.length c0_1]) (t := 27) ?hr ?_; (case hd => rfl); (case hg => rfl); (case hr => first | (go_simp; done) | (go_simp; rfl)); intro gb227 hg w10 hbox hb; have BK227 := Aside0.mk (hbox); have GW227 := Aside0.mk ((hz_ hg : w.heap.size ≤ gb227)); have GE227 := Aside0.mk ((hz_ hg : w.heap.size ≤ gb227)); replace HB := Aside0.mk (Ze hB_ hb); clear hb hbox hg))
        replace BK227 := Aside0.mk (Zd BK227.out)
        replace HB := Aside0.mk (Zi HB.out)
        refine start_ (n := 16) (S := fun w' => w'.cell? ⟨gb227, 0, none⟩ = some (.int .i64 a0_0) ∧ w'.cell? ⟨gb227, 1, none⟩ = some (.slice A0_1 l0_1.length c0_1)) (ds := []) #[O,O,O,O,O,O,O,O,O,O,O,O,O,O,O,O] (by kernel_rfl) rfl rfl ⟨(Za BK227.out 0).trans rfl, (Za BK227.out 1).trans rfl⟩ (fun hHeld => ?_); refine with_tabW impl_CanWin.tab1 impl_CanWin.bits1 (fun HT_ HW_ => ?_)
        generalize w10.drew = w11 at BK227 HB hHeld ⊢
        refine tk2_ 0 5 #[Y,O,O,O,O,O,O,O,O,O,O,O,O,O,O,O] hHeld ?_
        refine on_ 1 6 #[Y,Y,O,O,O,O,O,O,O,O,O,O,O,O,O,O] (fun K hK => ?_)
        refine goes_ Try.func24 (by kernel_rfl) rfl #[.agg #[.int .i64 a0_0, .slice A0_1 l0_1.length c0_1]] (by rfl) rfl rfl ar_ ?_
        with_reducible refine (impl_IsGraph.calls k a0_0 _ _ l0_1 true _ ?side1 ?side2 A3.out).mono ?_
        (case side1 => exact cb_ HR0_1.out)
        (case side2 => exact HC0_1.out)
        rintro e w12 ⟨rfl, hb⟩
        refine ⟨_, rfl, ?_⟩
        replace BK227 := Aside0.mk (Zc (g := gb227) (o := .cells #[.int .i64 a0_0, .slice A0_1 l0_1.length c0_1] 27 (0, 0)) (bk_ BK227.out) hb)
        replace HB := Aside0.mk (Ze hB_ hb)
        (try clear hb)
        (try clear hb2)
        (try clear hk)
        (try clear hi)
        refine hK.out _ _ ⟨(Za BK227.out 0).trans rfl, (Za BK227.out 1).trans rfl⟩ (fun hHeld => ?_)
        clear hK K
        refine no_ 6 ?_
        refine pu_ 2 7 #[Y,Y,Y,O,O,O,O,O,O,O,O,O,O,O,O,O] ?_
        refine pu_ 4 9 #[Y,Y,Y,O,Y,O,O,O,O,O,O,O,O,O,O,O] ?_
        refine tk2_ 3 8 #[Y,Y,Y,Y,Y,O,O,O,O,O,O,O,O,O,O,O] hHeld ?_
        refine on_ 5 10 #[Y,Y,Y,Y,Y,Y,O,O,O,O,O,O,O,O,O,O] (fun K hK => ?_)
        refine goes_ Try.func61 (by kernel_rfl) rfl #[.agg #[.int .i64 a0_0, .slice A0_1 l0_1.length c0_1], .int .i64 a1] (by rfl) rfl rfl ar_ ?_
        with_reducible refine (impl_isClaim.calls a0_0 _ _ l0_1 a1 true _ ?side1 ?side2 A5.out).mono ?_
        (case side1 => exact cb_ HR0_1.out)
        (case side2 => exact HC0_1.out)
        rintro e w13 ⟨rfl, hb⟩
        refine ⟨_, rfl, ?_⟩
        replace BK227 := Aside0.mk (Zc (g := gb227) (o := .cells #[.int .i64 a0_0, .slice A0_1 l0_1.length c0_1] 27 (0, 0)) (bk_ BK227.out) hb)
        replace HB := Aside0.mk (Ze hB_ hb)
        (try clear hb)
        (try clear hb2)
        (try clear hk)
        (try clear hi)
        refine hK.out _ _ ⟨(Za BK227.out 0).trans rfl, (Za BK227.out 1).trans rfl⟩ (fun hHeld => ?_)
        clear hK K
        refine no_ 10 ?_
        refine pu_ 6 11 #[Y,Y,Y,Y,Y,Y,Y,O,O,O,O,O,O,O,O,O] ?_
        refine pu_ 7 12 #[Y,Y,Y,Y,Y,Y,Y,Y,O,O,O,O,O,O,O,O] ?_
        refine pu_ 9 14 #[Y,Y,Y,Y,Y,Y,Y,Y,O,Y,O,O,O,O,O,O] ?_
        refine pu_ 10 15 #[Y,Y,Y,Y,Y,Y,Y,Y,O,Y,Y,O,O,O,O,O] ?_
        refine pu_ 11 16 #[Y,Y,Y,Y,Y,Y,Y,Y,O,Y,Y,Y,O,O,O,O] ?_
        refine tk2_ 8 13 #[Y,Y,Y,Y,Y,Y,Y,Y,Y,Y,Y,Y,O,O,O,O] hHeld ?_
        refine on_ 12 17 #[Y,Y,Y,Y,Y,Y,Y,Y,Y,Y,Y,Y,Y,O,O,O] (fun K hK => ?_)
        refine km_make (good := winsG a0_0 l0_1) (by rfl) rfl ?_
        intro B w13 hgB hmB hbB
        have HBB := Aside0.mk (show w.heap.size ≤ B by rw [hgB]; exact Zl HB.out)
        have HNG := Aside0.mk (show gb227 ≠ B by have := blk_lt BK227.out; omega)
        have n0_ := Aside0.mk (Zc (g := gb227) (o := .cells #[.int .i64 a0_0, .slice A0_1 l0_1.length c0_1] 27 (0, 0)) BK227.out hbB)
        have n1_ := Aside0.mk (Ze HB.out hbB)
        have HM := Aside0.mk hmB
        clear BK227
        clear HB
        have BK227 := n0_
        have HB := n1_
        clear n0_ n1_ hgB hmB hbB
        refine hK.out _ _ ⟨(Za BK227.out 0).trans rfl, (Za BK227.out 1).trans rfl⟩ (fun hHeld => ?_)
        clear hK K
        refine no_ 17 ?_
        refine on_ 13 18 #[Y,Y,Y,Y,Y,Y,Y,Y,Y,Y,Y,Y,Y,Y,O,O] (fun K hK => ?_)
        refine goes_ Try.func62 (by kernel_rfl) rfl #[.agg #[.int .i64 a0_0, .slice A0_1 l0_1.length c0_1], .int .i64 ji8, .int .i64 a1, .map (some B)] (by rfl) rfl rfl (by (try simp only [List.map_toArray, List.map_cons, List.map_nil]); first | done | (simp only [hji8]; rfl) | rfl | (simp only [List.length_drop, List.length_take]; rfl)) ?_
        with_reducible refine (impl_wins.calls k a0_0 _ _ l0_1 ji8 a1 B t230 w _ ?side1 ?side2 ?side3 ?side4 ?side5 A9.out).mono ?_
        (case side1 => exact HB.out)
        (case side2 => exact HBB.out)
        (case side3 => exact HM.out)
        (case side4 => exact HR0_1.out)
        (case side5 => exact HC0_1.out)
        rintro e w14 ⟨rfl, hb, hmr, hkr⟩
        refine ⟨_, rfl, ?_⟩
        replace BK227 := Aside0.mk (blk_kept (g := gb227) (o := .cells #[.int .i64 a0_0, .slice A0_1 l0_1.length c0_1] 27 (0, 0)) BK227.out hkr HNG.out)
        replace HB := Aside0.mk hb
        (try clear hb)
        (try clear hb2)
        (try clear hk)
        (try clear hi)
        refine hK.out _ _ ⟨(Za BK227.out 0).trans rfl, (Za BK227.out 1).trans rfl⟩ (fun hHeld => ?_)
        clear hK K
        refine no_ 18 ?_
        refine pu_ 14 19 #[Y,Y,Y,Y,Y,Y,Y,Y,Y,Y,Y,Y,Y,Y,Y,O] ?_
        refine pu_ 15 4 #[Y,Y,Y,Y,Y,Y,Y,Y,Y,Y,Y,Y,Y,Y,Y,Y] ?_
        refine done_ (done_of HT_.out (by kernel_rfl)) ?_
        try go_wp2
        go_ret
        exact ⟨by first | rfl | (simp [errW_none, errW_some] <;> rfl) | (simp only [← hji8]; first | rfl | (simp [errW_none, errW_some] <;> rfl)) | (simp [*, errW_none, errW_some] <;> rfl), hB_⟩
      · rw [if_neg c7] at H
        exact absurd H (by simp)
    · replace c6 := Bool.eq_false_iff.mpr c6
      subst c6
      have H1 : (some false) = some r := by rw [if_neg (show ¬ (false = true) by decide)] at H; exact H
      clear H
      have H := H1
      clear H1
      obtain rfl := Option.some.inj H
      go_enter Try.func12, Try.ntmps12
      try go_wp2_with (first | ((with_reducible refine ZD (N := 2) rfl ?_); refine ZH ?hg (N := 2) ?hd (cs := #[.int .i64 a0_0, .slice A0_1 l0_1.length c0_1]) (t := 27) ?hr ?_; (case hd => rfl); (case hg => rfl); (case hr => first | (go_simp; done) | (go_simp; rfl)); intro gb227 hg w15 hbox hb; have BK227 := Aside0.mk (hbox); have GW227 := Aside0.mk ((hz_ hg : w.heap.size ≤ gb227)); have GE227 := Aside0.mk ((hz_ hg : w.heap.size ≤ gb227)); replace HB := Aside0.mk (Ze hB_ hb); clear hb hbox hg))
      replace BK227 := Aside0.mk (Zd BK227.out)
      replace HB := Aside0.mk (Zi HB.out)
      refine start_ (n := 16) (S := fun w' => w'.cell? ⟨gb227, 0, none⟩ = some (.int .i64 a0_0) ∧ w'.cell? ⟨gb227, 1, none⟩ = some (.slice A0_1 l0_1.length c0_1)) (ds := []) #[O,O,O,O,O,O,O,O,O,O,O,O,O,O,O,O] (by kernel_rfl) rfl rfl ⟨(Za BK227.out 0).trans rfl, (Za BK227.out 1).trans rfl⟩ (fun hHeld => ?_); refine with_tabW impl_CanWin.tab1 impl_CanWin.bits1 (fun HT_ HW_ => ?_)
      generalize w15.drew = w16 at BK227 HB hHeld ⊢
      refine tk2_ 0 5 #[Y,O,O,O,O,O,O,O,O,O,O,O,O,O,O,O] hHeld ?_
      refine on_ 1 6 #[Y,Y,O,O,O,O,O,O,O,O,O,O,O,O,O,O] (fun K hK => ?_)
      refine goes_ Try.func24 (by kernel_rfl) rfl #[.agg #[.int .i64 a0_0, .slice A0_1 l0_1.length c0_1]] (by rfl) rfl rfl ar_ ?_
      with_reducible refine (impl_IsGraph.calls k a0_0 _ _ l0_1 true _ ?side1 ?side2 A3.out).mono ?_
      (case side1 => exact cb_ HR0_1.out)
      (case side2 => exact HC0_1.out)
      rintro e w17 ⟨rfl, hb⟩
      refine ⟨_, rfl, ?_⟩
      replace BK227 := Aside0.mk (Zc (g := gb227) (o := .cells #[.int .i64 a0_0, .slice A0_1 l0_1.length c0_1] 27 (0, 0)) (bk_ BK227.out) hb)
      replace HB := Aside0.mk (Ze hB_ hb)
      (try clear hb)
      (try clear hb2)
      (try clear hk)
      (try clear hi)
      refine hK.out _ _ ⟨(Za BK227.out 0).trans rfl, (Za BK227.out 1).trans rfl⟩ (fun hHeld => ?_)
      clear hK K
      refine no_ 6 ?_
      refine pu_ 2 7 #[Y,Y,Y,O,O,O,O,O,O,O,O,O,O,O,O,O] ?_
      refine pu_ 4 9 #[Y,Y,Y,O,Y,O,O,O,O,O,O,O,O,O,O,O] ?_
      refine tk2_ 3 8 #[Y,Y,Y,Y,Y,O,O,O,O,O,O,O,O,O,O,O] hHeld ?_
      refine on_ 5 10 #[Y,Y,Y,Y,Y,Y,O,O,O,O,O,O,O,O,O,O] (fun K hK => ?_)
      refine goes_ Try.func61 (by kernel_rfl) rfl #[.agg #[.int .i64 a0_0, .slice A0_1 l0_1.length c0_1], .int .i64 a1] (by rfl) rfl rfl ar_ ?_
      with_reducible refine (impl_isClaim.calls a0_0 _ _ l0_1 a1 false _ ?side1 ?side2 A5.out).mono ?_
      (case side1 => exact cb_ HR0_1.out)
      (case side2 => exact HC0_1.out)
      rintro e w18 ⟨rfl, hb⟩
      refine ⟨_, rfl, ?_⟩
      replace BK227 := Aside0.mk (Zc (g := gb227) (o := .cells #[.int .i64 a0_0, .slice A0_1 l0_1.length c0_1] 27 (0, 0)) (bk_ BK227.out) hb)
      replace HB := Aside0.mk (Ze hB_ hb)
      (try clear hb)
      (try clear hb2)
      (try clear hk)
      (try clear hi)
      refine hK.out _ _ ⟨(Za BK227.out 0).trans rfl, (Za BK227.out 1).trans rfl⟩ (fun hHeld => ?_)
      clear hK K
      refine no_ 10 ?_
      refine pu_ 6 11 #[Y,Y,Y,Y,Y,Y,Y,O,O,O,O,O,O,O,O,O] ?_
      refine pu_ 7 12 #[Y,Y,Y,Y,Y,Y,Y,Y,O,O,O,O,O,O,O,O] ?_
      refine pn_ 8 13 #[Y,Y,Y,Y,Y,Y,Y,Y,Y,O,O,O,O,O,O,O] ?_
      refine pn_ 9 14 #[Y,Y,Y,Y,Y,Y,Y,Y,Y,Y,O,O,O,O,O,O] ?_
      refine pn_ 10 15 #[Y,Y,Y,Y,Y,Y,Y,Y,Y,Y,Y,O,O,O,O,O] ?_
      refine pn_ 11 16 #[Y,Y,Y,Y,Y,Y,Y,Y,Y,Y,Y,Y,O,O,O,O] ?_
      refine pn_ 12 17 #[Y,Y,Y,Y,Y,Y,Y,Y,Y,Y,Y,Y,Y,O,O,O] ?_
      refine pn_ 13 18 #[Y,Y,Y,Y,Y,Y,Y,Y,Y,Y,Y,Y,Y,Y,O,O] ?_
      refine pu_ 14 19 #[Y,Y,Y,Y,Y,Y,Y,Y,Y,Y,Y,Y,Y,Y,Y,O] ?_
      refine pu_ 15 4 #[Y,Y,Y,Y,Y,Y,Y,Y,Y,Y,Y,Y,Y,Y,Y,Y] ?_
      refine done_ (done_of HT_.out (by kernel_rfl)) ?_
      try go_wp2
      go_ret
      exact ⟨er_, hB_⟩
  · replace c4 := Bool.eq_false_iff.mpr c4
    subst c4
    have H1 : (some false) = some r := by rw [if_neg (show ¬ (false = true) by decide)] at H; exact H
    clear H
    have H := H1
    clear H1
    obtain rfl := Option.some.inj H
    go_enter Try.func12, Try.ntmps12
    try go_wp2_with (first | ((with_reducible refine ZD (N := 2) rfl ?_); refine ZH ?hg (N := 2) ?hd (cs := #[.int .i64 a0_0, .slice A0_1 l0_1.length c0_1]) (t := 27) ?hr ?_; (case hd => rfl); (case hg => rfl); (case hr => first | (go_simp; done) | (go_simp; rfl)); intro gb227 hg w19 hbox hb; have BK227 := Aside0.mk (hbox); have GW227 := Aside0.mk ((hz_ hg : w.heap.size ≤ gb227)); have GE227 := Aside0.mk ((hz_ hg : w.heap.size ≤ gb227)); replace HB := Aside0.mk (Ze hB_ hb); clear hb hbox hg))
    replace BK227 := Aside0.mk (Zd BK227.out)
    replace HB := Aside0.mk (Zi HB.out)
    refine start_ (n := 16) (S := fun w' => w'.cell? ⟨gb227, 0, none⟩ = some (.int .i64 a0_0) ∧ w'.cell? ⟨gb227, 1, none⟩ = some (.slice A0_1 l0_1.length c0_1)) (ds := []) #[O,O,O,O,O,O,O,O,O,O,O,O,O,O,O,O] (by kernel_rfl) rfl rfl ⟨(Za BK227.out 0).trans rfl, (Za BK227.out 1).trans rfl⟩ (fun hHeld => ?_); refine with_tabW impl_CanWin.tab1 impl_CanWin.bits1 (fun HT_ HW_ => ?_)
    generalize w19.drew = w20 at BK227 HB hHeld ⊢
    refine tk2_ 0 5 #[Y,O,O,O,O,O,O,O,O,O,O,O,O,O,O,O] hHeld ?_
    refine on_ 1 6 #[Y,Y,O,O,O,O,O,O,O,O,O,O,O,O,O,O] (fun K hK => ?_)
    refine goes_ Try.func24 (by kernel_rfl) rfl #[.agg #[.int .i64 a0_0, .slice A0_1 l0_1.length c0_1]] (by rfl) rfl rfl ar_ ?_
    with_reducible refine (impl_IsGraph.calls k a0_0 _ _ l0_1 false _ ?side1 ?side2 A3.out).mono ?_
    (case side1 => exact cb_ HR0_1.out)
    (case side2 => exact HC0_1.out)
    rintro e w21 ⟨rfl, hb⟩
    refine ⟨_, rfl, ?_⟩
    replace BK227 := Aside0.mk (Zc (g := gb227) (o := .cells #[.int .i64 a0_0, .slice A0_1 l0_1.length c0_1] 27 (0, 0)) (bk_ BK227.out) hb)
    replace HB := Aside0.mk (Ze hB_ hb)
    (try clear hb)
    (try clear hb2)
    (try clear hk)
    (try clear hi)
    refine hK.out _ _ ⟨(Za BK227.out 0).trans rfl, (Za BK227.out 1).trans rfl⟩ (fun hHeld => ?_)
    clear hK K
    refine no_ 6 ?_
    refine pu_ 2 7 #[Y,Y,Y,O,O,O,O,O,O,O,O,O,O,O,O,O] ?_
    refine pn_ 3 8 #[Y,Y,Y,Y,O,O,O,O,O,O,O,O,O,O,O,O] ?_
    refine pn_ 4 9 #[Y,Y,Y,Y,Y,O,O,O,O,O,O,O,O,O,O,O] ?_
    refine pn_ 5 10 #[Y,Y,Y,Y,Y,Y,O,O,O,O,O,O,O,O,O,O] ?_
    refine pu_ 6 11 #[Y,Y,Y,Y,Y,Y,Y,O,O,O,O,O,O,O,O,O] ?_
    refine pu_ 7 12 #[Y,Y,Y,Y,Y,Y,Y,Y,O,O,O,O,O,O,O,O] ?_
    refine pn_ 8 13 #[Y,Y,Y,Y,Y,Y,Y,Y,Y,O,O,O,O,O,O,O] ?_
    refine pn_ 9 14 #[Y,Y,Y,Y,Y,Y,Y,Y,Y,Y,O,O,O,O,O,O] ?_
    refine pn_ 10 15 #[Y,Y,Y,Y,Y,Y,Y,Y,Y,Y,Y,O,O,O,O,O] ?_
    refine pn_ 11 16 #[Y,Y,Y,Y,Y,Y,Y,Y,Y,Y,Y,Y,O,O,O,O] ?_
    refine pn_ 12 17 #[Y,Y,Y,Y,Y,Y,Y,Y,Y,Y,Y,Y,Y,O,O,O] ?_
    refine pn_ 13 18 #[Y,Y,Y,Y,Y,Y,Y,Y,Y,Y,Y,Y,Y,Y,O,O] ?_
    refine pu_ 14 19 #[Y,Y,Y,Y,Y,Y,Y,Y,Y,Y,Y,Y,Y,Y,Y,O] ?_
    refine pu_ 15 4 #[Y,Y,Y,Y,Y,Y,Y,Y,Y,Y,Y,Y,Y,Y,Y,Y] ?_
    refine done_ (done_of HT_.out (by kernel_rfl)) ?_
    try go_wp2
    go_ret
    exact ⟨er_, hB_⟩

/-! ### slices_Index_int_int: function 116 -/
def slices_Index_int_int.l0 : Nat → List Int → Int → Int → Int → Option (Int)
 | 0, _, _, _, _ => none
 | k + 1, x0, x1, x7, x8 => if x8 < x7 then (if 0 ≤ x8 then (if x8 < (x0.length : Int) then (if x1 = (rd x0 x8) then (some x8) else (slices_Index_int_int.l0 k x0 x1 x7 (wrap64 (x8 + 1)))) else (none)) else (none)) else (some (-1))
def slices_Index_int_int.f (k : Nat) (l0 : List Int) (a1 : Int) : Option (Int) := slices_Index_int_int.l0 k l0 a1 (l0.length : Int) 0
theorem slices_Index_int_int.mono_l : ∀ k, (∀ y0 y1 y2 y3, LeO (slices_Index_int_int.l0 k y0 y1 y2 y3) (slices_Index_int_int.l0 (k + 1) y0 y1 y2 y3))
 | 0 => fun _ _ _ _ r h => by simp [slices_Index_int_int.l0] at h
 | k + 1 => by
  have ih0 := slices_Index_int_int.mono_l k
  ·intro y0 y1 y2 y3
   unfold slices_Index_int_int.l0
   repeat' first
   | (with_reducible exact ih0 _ _ _ _)
   | (with_reducible exact ZJ _)
   | (with_reducible exact Zn _)
   | (with_reducible refine Zt ?_ ?_)
   | (with_reducible refine Zo ?_ (fun _ => ?_))
   | exact ih0 _ _ _ _
   | exact Zn _
   | refine Zt ?_ ?_
   | refine Zo ?_ (fun _ => ?_)
theorem slices_Index_int_int.mono : ∀ a0 a1 k, LeO (slices_Index_int_int.f k a0 a1) (slices_Index_int_int.f (k + 1) a0 a1) := by
 intro a0 a1 k
 have ih0 := slices_Index_int_int.mono_l k
 unfold slices_Index_int_int.f
 repeat' first
   | (with_reducible exact ih0 _ _ _ _)
   | (with_reducible exact ZJ _)
   | (with_reducible exact Zn _)
   | (with_reducible refine Zt ?_ ?_)
   | (with_reducible refine Zo ?_ (fun _ => ?_))
   | exact ih0 _ _ _ _
   | exact Zn _
   | refine Zt ?_ ?_
   | refine Zo ?_ (fun _ => ?_)
set_option maxHeartbeats 8000000 in
set_option maxRecDepth 100000 in
theorem slices_Index_int_int.calls (k : Nat) (A0 : Option Addr) (c0 : Nat) (l0 : List Int) (a1 : Int) (r : Int) (w : World) (hr0 : Kd.C (Kd.int .i64) w A0 l0.length l0) (hc0 : l0.length ≤ c0) (h : slices_Index_int_int.f k l0 a1 = some r) :
  Calls Try.prog 116 #[.slice A0 l0.length c0, .int .i64 a1] w fun e w' => e = .returned (.int .i64 r) ∧ Drawn0 w w' := by
 have HR0 := Aside0.mk hr0
 have HC0 := Aside0.mk hc0
 clear hr0 hc0
 have H : (slices_Index_int_int.l0 k l0 a1 (l0.length : Int) 0) = some r := h
 clear h
 have H' := Aside0.mk H
 clear H
 go_enter Try.func116, Try.ntmps116
 go_wp2
 go_loopg [8] k (fun kq v8 w' => ∃ (x8_1 : Int), v8 = .int .i64 x8_1 ∧ Aside0 (slices_Index_int_int.l0 kq l0 a1 (l0.length : Int) x8_1 = some r) ∧ Aside0 (kq ≤ k) ∧ Drawn0 w w')
 case atStart => exact ⟨(0), sm_, H', ⟨Nat.le_refl _⟩, dr_⟩
 case round =>
  clear H'
  try clear c1
  try clear p2
  obtain ⟨x8_1, rfl, HA, HK1, ⟨m1, rfl⟩⟩ := hrel
  cases gk with
  | zero => exact absurd HA.out (by simp [slices_Index_int_int.l0])
  | succ k1 =>
   have H := HA.out
   clear HA
   simp only [slices_Index_int_int.l0] at H
   by_cases c3 : x8_1 < (l0.length : Int)
   ·rw [if_pos c3] at H
    have c3b0 : decide (x8_1 < (l0.length : Int)) = true := decide_eq_true c3
    clear c3
    by_cases c4 : 0 ≤ x8_1
    ·rw [if_pos c4] at H
     have c4b0 : decide (0 ≤ x8_1) = true := decide_eq_true c4
     clear c4
     by_cases c5 : x8_1 < (l0.length : Int)
     ·rw [if_pos c5] at H
      have c5b0 : decide (x8_1 < (l0.length : Int)) = true := decide_eq_true c5
      clear c5
      by_cases c6 : a1 = (rd l0 x8_1)
      ·rw [if_pos c6] at H
       have c6b0 : (a1 == (rd l0 x8_1)) = true := beq_iff_eq.mpr c6
       have c6b1 : (a1 != (rd l0 x8_1)) = false := bne_eq_false_iff_eq.mpr c6
       clear c6
       obtain rfl := Option.some.inj H
       have p128 : 0 ≤ (x8_1 : Int) := of_decide_eq_true as_
       have q128 : x8_1 < (l0.length : Int) := of_decide_eq_true as_
       obtain ⟨ad128, e128, hx128_0⟩ := Zv HR0.out x8_1 p128 q128
       cases e128
       replace p128 := eq_true p128
       replace q128 := eq_true q128
       go_wp2
       go_ret
       exact ⟨sm_, dr_⟩
      ·rw [if_neg c6] at H
       have c6b0 : (a1 == (rd l0 x8_1)) = false := beq_eq_false_iff_ne.mpr c6
       have c6b1 : (a1 != (rd l0 x8_1)) = true := bne_iff_ne.mpr c6
       have H' := Aside0.mk H
       clear H
       have p128 : 0 ≤ (x8_1 : Int) := of_decide_eq_true as_
       have q128 : x8_1 < (l0.length : Int) := of_decide_eq_true as_
       obtain ⟨ad128, e128, hx128_0⟩ := Zv HR0.out x8_1 p128 q128
       cases e128
       replace p128 := eq_true p128
       replace q128 := eq_true q128
       go_wp2
       go_roundg k1
       case measure => have := HK1.out; omega
       case rel => exact ⟨(wrap64 (x8_1 + 1)), sm_, H', ⟨by have := HK1.out; omega⟩, dr_⟩
     ·rw [if_neg c5] at H
      exact absurd H (by simp)
    ·rw [if_neg c4] at H
     exact absurd H (by simp)
   ·rw [if_neg c3] at H
    have c3b0 : decide (x8_1 < (l0.length : Int)) = false := decide_eq_false c3
    clear c3
    obtain rfl := Option.some.inj H
    go_wp2
    go_ret
    exact ⟨sm_, dr_⟩

/-! ### slices_Contains_int_int: function 80 -/
def slices_Contains_int_int.f (k : Nat) (l0 : List Int) (a1 : Int) : Option (Bool) := (slices_Index_int_int.f k l0 a1).bind fun t129 => (some (decide (t129 ≥ 0)))
theorem slices_Contains_int_int.mono : ∀ a0 a1 k, LeO (slices_Contains_int_int.f k a0 a1) (slices_Contains_int_int.f (k + 1) a0 a1) := by
 intro a0 a1 k
 unfold slices_Contains_int_int.f
 repeat' first
   | (with_reducible exact slices_Index_int_int.mono _ _ _)
   | (with_reducible exact ZJ _)
   | (with_reducible exact Zn _)
   | (with_reducible refine Zt ?_ ?_)
   | (with_reducible refine Zo ?_ (fun _ => ?_))
   | exact slices_Index_int_int.mono _ _ _
   | exact Zn _
   | refine Zt ?_ ?_
   | refine Zo ?_ (fun _ => ?_)
set_option maxHeartbeats 8000000 in
set_option maxRecDepth 100000 in
theorem slices_Contains_int_int.calls (k : Nat) (A0 : Option Addr) (c0 : Nat) (l0 : List Int) (a1 : Int) (r : Bool) (w : World) (hr0 : Kd.C (Kd.int .i64) w A0 l0.length l0) (hc0 : l0.length ≤ c0) (h : slices_Contains_int_int.f k l0 a1 = some r) :
  Calls Try.prog 80 #[.slice A0 l0.length c0, .int .i64 a1] w fun e w' => e = .returned (.bool r) ∧ Drawn0 w w' := by
 have HR0 := Aside0.mk hr0
 have HC0 := Aside0.mk hc0
 clear hr0 hc0
 have H : ((slices_Index_int_int.f k l0 a1).bind fun t129 => (some (decide (t129 ≥ 0)))) = some r := h
 clear h
 replace H := Option.bind_eq_some_iff.mp H
 obtain ⟨t129, A30, H⟩ := H
 replace H : (some (decide (t129 ≥ 0))) = some r := H
 have A3 := Aside0.mk A30
 clear A30
 obtain rfl := Option.some.inj H
 go_enter Try.func80, Try.ntmps80
 go_wp2_with (first | ((with_reducible refine Zj (f := 116) rfl ?_); refine ZE (some 7) rfl rfl Try.func116 (by kernel_rfl) rfl #[.slice A0 l0.length c0, .int .i64 a1] rfl ar_ ?_; (with_reducible refine (slices_Index_int_int.calls k _ _ l0 a1 t129 _ ?side1 ?side2 A3.out).mono ?_); (case side1 => repeat (first | exact HR0.out | (with_reducible refine ZB ?_ _) | (with_reducible refine ZA ?_ _) | (with_reducible refine ZG ?_))); (case side2 => exact HC0.out); rintro e w' ⟨rfl, ⟨nd, rfl⟩⟩; refine ⟨_, rfl, ?_⟩))
 go_ret
 exact ⟨sm_, dr_⟩

/-! ### impl_AnswersTo: function 35 -/
def impl_AnswersTo.l0 : Nat → List Int → List Int → List Int → Int → Int → Option (List Int)
 | 0, _, _, _, _, _ => none
 | k + 1, x1, x7, x13, x14, x15 => if x15 < x14 then (if 0 ≤ x15 then (if x15 < (x13.length : Int) then ((slices_Contains_int_int.f k x1 (rd x13 x15)).bind fun t138 => (if t138 = true then (impl_AnswersTo.l0 k x1 x7 x13 x14 (wrap64 (x15 + 1))) else (if x7.length < 17592186044416 then (impl_AnswersTo.l0 k x1 (x7 ++ [rd x13 x15]) x13 x14 (wrap64 (x15 + 1))) else (none)))) else (none)) else (none)) else (some x7)
def impl_AnswersTo.f (k : Nat) (a0_0 : Int) (l0_1 : List (List Int)) (l1 : List Int) (a2 : Int) : Option (List Int) := (impl_AttackersOf.f k a0_0 l0_1 a2).bind fun t134 => (impl_AnswersTo.l0 k l1 (([] : List Int)) t134 (t134.length : Int) 0)
theorem impl_AnswersTo.mono_l : ∀ k, (∀ y0 y1 y2 y3 y4, LeO (impl_AnswersTo.l0 k y0 y1 y2 y3 y4) (impl_AnswersTo.l0 (k + 1) y0 y1 y2 y3 y4))
 | 0 => fun _ _ _ _ _ r h => by simp [impl_AnswersTo.l0] at h
 | k + 1 => by
  have ih0 := impl_AnswersTo.mono_l k
  ·intro y0 y1 y2 y3 y4
   unfold impl_AnswersTo.l0
   repeat' first
   | (with_reducible exact ih0 _ _ _ _ _)
   | (with_reducible exact impl_AttackersOf.mono _ _ _ _)
   | (with_reducible exact slices_Contains_int_int.mono _ _ _)
   | (with_reducible exact ZJ _)
   | (with_reducible exact Zn _)
   | (with_reducible refine Zt ?_ ?_)
   | (with_reducible refine Zo ?_ (fun _ => ?_))
   | exact ih0 _ _ _ _ _
   | exact impl_AttackersOf.mono _ _ _ _
   | exact slices_Contains_int_int.mono _ _ _
   | exact Zn _
   | refine Zt ?_ ?_
   | refine Zo ?_ (fun _ => ?_)
theorem impl_AnswersTo.mono : ∀ a0 a1 a2 a3 k, LeO (impl_AnswersTo.f k a0 a1 a2 a3) (impl_AnswersTo.f (k + 1) a0 a1 a2 a3) := by
 intro a0 a1 a2 a3 k
 have ih0 := impl_AnswersTo.mono_l k
 unfold impl_AnswersTo.f
 repeat' first
   | (with_reducible exact ih0 _ _ _ _ _)
   | (with_reducible exact impl_AttackersOf.mono _ _ _ _)
   | (with_reducible exact slices_Contains_int_int.mono _ _ _)
   | (with_reducible exact ZJ _)
   | (with_reducible exact Zn _)
   | (with_reducible refine Zt ?_ ?_)
   | (with_reducible refine Zo ?_ (fun _ => ?_))
   | exact ih0 _ _ _ _ _
   | exact impl_AttackersOf.mono _ _ _ _
   | exact slices_Contains_int_int.mono _ _ _
   | exact Zn _
   | refine Zt ?_ ?_
   | refine Zo ?_ (fun _ => ?_)
set_option maxHeartbeats 8000000 in
set_option maxRecDepth 100000 in
theorem impl_AnswersTo.calls (k : Nat) (a0_0 : Int) (A0_1 : Option Addr) (c0_1 : Nat) (l0_1 : List (List Int)) (A1 : Option Addr) (c1 : Nat) (l1 : List Int) (a2 : Int) (r : List Int) (w : World) (hr0_1 : Kd.C (Kd.slice 3 (Kd.int .i64)) w A0_1 l0_1.length l0_1) (hc0_1 : l0_1.length ≤ c0_1) (hr1 : Kd.C (Kd.int .i64) w A1 l1.length l1) (hc1 : l1.length ≤ c1) (h : impl_AnswersTo.f k a0_0 l0_1 l1 a2 = some r) :
  Calls Try.prog 35 #[.agg #[.int .i64 a0_0, .slice A0_1 l0_1.length c0_1], .slice A1 l1.length c1, .int .i64 a2] w fun e w' => ∃ v0_ : Value, e = .returned (v0_) ∧ Kd.R (Kd.int .i64) 3 w' w.heap.size (fun _ => True) v0_ r ∧ Below w.heap.size w w' := by
 have hu27 := Try.underlying27
 have HR0_1 := Aside0.mk hr0_1
 have HC0_1 := Aside0.mk hc0_1
 clear hr0_1 hc0_1
 have HR1 := Aside0.mk hr1
 have HC1 := Aside0.mk hc1
 clear hr1 hc1
 have HB := Aside0.mk (Below.refl w.heap.size w)
 have H : ((impl_AttackersOf.f k a0_0 l0_1 a2).bind fun t134 => (impl_AnswersTo.l0 k l1 (([] : List Int)) t134 (t134.length : Int) 0)) = some r := h
 clear h
 obtain ⟨y131, hy131⟩ : ∃ y_ : List Int, y_ = (([] : List Int)) := ⟨_, rfl⟩
 replace H : ((impl_AttackersOf.f k a0_0 l0_1 a2).bind fun t134 => (impl_AnswersTo.l0 k l1 y131 t134 (t134.length : Int) 0)) = some r := hy_ hy131 H
 have Ny131 := Aside0.mk hy131
 clear hy131
 replace H := Option.bind_eq_some_iff.mp H
 obtain ⟨t134, A40, H⟩ := H
 replace H : (impl_AnswersTo.l0 k l1 y131 t134 (t134.length : Int) 0) = some r := H
 have A4 := Aside0.mk A40
 clear A40
 have H' := Aside0.mk H
 clear H
 go_enter Try.func35, Try.ntmps35
 go_wp2_with (first | ((with_reducible refine ZD (N := 3) rfl ?_); refine ZH ?hg (N := 3) ?hd (cs := #[.int .i64 a0_0, .slice A0_1 l0_1.length c0_1]) (t := 27) ?hr ?_; (case hd => rfl); (case hg => rfl); (case hr => first | (go_simp; done) | (go_simp; rfl)); intro gb130 hg w5 hbox hb; have BK130 := Aside0.mk (hbox); have GW130 := Aside0.mk ((hz_ hg : w.heap.size ≤ gb130)); have GE130 := Aside0.mk ((hz_ hg : w.heap.size ≤ gb130)); replace HB := Aside0.mk (Ze hB_ hb); clear hb hbox hg) | ((with_reducible refine ZD (N := 10) rfl ?_); refine Kd.R_lit (Kd.int .i64) _ 3 ?hg (N := 10) ?hd (xs := ([] : List Int)) (inner := []) (ok := fun _ => True) (okp := fun _ => True) ?hr ?hp (fun _ hk => hk) trivial (Below.refl _ _) (Nat.le_refl _) (by simp) ?_; (case hd => rfl); (case hg => rfl); (case hr => first | (go_simp; done) | (go_simp; rfl)); (case hp => exact (Reps.none _ _)); intro v132 w6 ho7 hb hg_ hnew_; clear hg_ hnew_; (first | rw [← Ny131.out] at ho7 | (simp only [Int.reduceToNat] at ho7; rw [← Ny131.out] at ho7)); have HO133 := Aside0.mk (ZI ho7 (Zl hB_)); replace BK130 := Aside0.mk (Zc (g := gb130) (o := .cells #[.int .i64 a0_0, .slice A0_1 l0_1.length c0_1] 27 (0, 0)) (bk_ BK130.out) hb); replace HB := Aside0.mk (Ze hB_ hb); clear hb ho7; have hcz8_0 : w6.cell? ⟨gb130, 0, none⟩ = some (.int .i64 a0_0) := (Za BK130.out 0).trans rfl; have hcz8_1 : w6.cell? ⟨gb130, 1, none⟩ = some (.slice A0_1 l0_1.length c0_1) := (Za BK130.out 1).trans rfl; have hfz8_0 := Zb BK130.out 0; have hfz8_1 := Zb BK130.out 1) | ((with_reducible refine Zj (f := 40) rfl ?_); refine ZE (some 13) rfl rfl Try.func40 (by kernel_rfl) rfl #[.agg #[.int .i64 a0_0, .slice A0_1 l0_1.length c0_1], .int .i64 a2] rfl ar_ ?_; (with_reducible refine (impl_AttackersOf.calls k a0_0 _ _ l0_1 a2 t134 _ ?side1 ?side2 A4.out).mono ?_); (case side1 => exact cb_ HR0_1.out); (case side2 => exact HC0_1.out); rintro e w9 ⟨v135, rfl, ho0, hb⟩; refine ⟨_, rfl, ?_⟩; have HO136 := Aside0.mk (ZI (Kd.R_new' ho0 (Kd.R_lt (rR_ HO133.out))) (Zl hB_)); replace HO133 := Aside0.mk (Kd.R_elder' (rR_ HO133.out) (ZS ho0) hb); replace BK130 := Aside0.mk (Zc (g := gb130) (o := .cells #[.int .i64 a0_0, .slice A0_1 l0_1.length c0_1] 27 (0, 0)) (bk_ BK130.out) hb); replace HB := Aside0.mk (Ze hB_ hb); (try clear hb); (try clear hb2); (try clear hk); (try clear hi); (try clear ho0); obtain ⟨Ao10, co10, eo10⟩ := ZP HO136.out; subst eo10))
 go_loopg [7, 15] k (fun kq v7 v15 w' => ∃ (x7_1 : List Int) (x15_1 : Int), v15 = .int .i64 x15_1 ∧ Aside0 (impl_AnswersTo.l0 kq l1 x7_1 t134 (t134.length : Int) x15_1 = some r) ∧ Aside0 (kq ≤ k) ∧ Aside0 (Kd.R (Kd.int .i64) 3 w' w.heap.size (fun k_ => some k_ ≠ ((.slice Ao10 t134.length co10) : Value).ownBlock) v7 x7_1) ∧ Aside0 (Kd.R (Kd.int .i64) 3 w' w.heap.size (fun k_ => some k_ ≠ (v7 : Value).ownBlock) (.slice Ao10 t134.length co10) t134) ∧ Aside0 (w'.heap[gb130]? = some (.cells #[.int .i64 a0_0, (.slice A0_1 l0_1.length c0_1)] 27 (0, 0))) ∧ Aside0 (Below w.heap.size w w'))
 case atStart => exact ⟨(y131), (0), sm_, H', ⟨Nat.le_refl _⟩, ⟨by (with_reducible repeat (first | apply Kd.R_alloc | apply Kd.R_drewN | apply ZR)); exact Zz HO133.out (fun _ hk => hk.2)⟩, ⟨by (with_reducible repeat (first | apply Kd.R_alloc | apply Kd.R_drewN | apply ZR)); exact Zz HO136.out (fun _ hk => hk.2)⟩, ⟨bk_ BK130.out⟩, ⟨hB_⟩⟩
 case round =>
  clear H'
  try clear c1
  try clear p2
  try clear c3
  try clear c4
  try clear hcz8_0
  try clear hcz8_1
  try clear hfz8_0
  try clear hfz8_1
  obtain ⟨x7_1, x15_1, rfl, HA, HK1, HO_7, HO_13, BK130, HB⟩ := hrel
  cases gk with
  | zero => exact absurd HA.out (by simp [impl_AnswersTo.l0])
  | succ k1 =>
   have H := HA.out
   clear HA
   simp only [impl_AnswersTo.l0] at H
   by_cases c11 : x15_1 < (t134.length : Int)
   ·rw [if_pos c11] at H
    have c11b0 : decide (x15_1 < (t134.length : Int)) = true := decide_eq_true c11
    clear c11
    by_cases c12 : 0 ≤ x15_1
    ·rw [if_pos c12] at H
     have c12b0 : decide (0 ≤ x15_1) = true := decide_eq_true c12
     clear c12
     by_cases c13 : x15_1 < (t134.length : Int)
     ·rw [if_pos c13] at H
      have c13b0 : decide (x15_1 < (t134.length : Int)) = true := decide_eq_true c13
      clear c13
      replace H := Option.bind_eq_some_iff.mp H
      obtain ⟨t138, A140, H⟩ := H
      replace H : (if t138 = true then (impl_AnswersTo.l0 k1 l1 x7_1 t134 (t134.length : Int) (wrap64 (x15_1 + 1))) else (if x7_1.length < 17592186044416 then (impl_AnswersTo.l0 k1 l1 (x7_1 ++ [rd t134 x15_1]) t134 (t134.length : Int) (wrap64 (x15_1 + 1))) else (none))) = some r := H
      have A14 := Aside0.mk A140
      clear A140
      by_cases c15 : t138 = true
      ·subst c15
       have H1 : (impl_AnswersTo.l0 k1 l1 x7_1 t134 (t134.length : Int) (wrap64 (x15_1 + 1))) = some r := by rw [if_pos rfl] at H; exact H
       clear H
       have H := H1
       clear H1
       have H' := Aside0.mk H
       clear H
       have p137 : 0 ≤ (x15_1 : Int) := of_decide_eq_true as_
       have q137 : x15_1 < (t134.length : Int) := of_decide_eq_true as_
       obtain ⟨ad137, e137, hx137_0⟩ := Zv (Zp HO_13.out).2.2 x15_1 p137 q137
       cases e137
       replace p137 := eq_true p137
       replace q137 := eq_true q137
       go_wp2_with (first | ((with_reducible refine Zj (f := 80) rfl ?_); refine ZE (some 21) rfl rfl Try.func80 (by kernel_rfl) rfl #[.slice A1 l1.length c1, .int .i64 (rd t134 x15_1)] rfl ar_ ?_; (with_reducible refine (slices_Contains_int_int.calls k1 _ _ l1 (rd t134 x15_1) true _ ?side1 ?side2 A14.out).mono ?_); (case side1 => exact cb_ HR1.out); (case side2 => exact HC1.out); rintro e w' ⟨rfl, ⟨nd, rfl⟩⟩; refine ⟨_, rfl, ?_⟩))
       go_roundg k1
       case measure => have := HK1.out; omega
       case rel => exact ⟨(x7_1), (wrap64 (x15_1 + 1)), sm_, H', ⟨by have := HK1.out; omega⟩, ⟨rR_ HO_7.out⟩, ⟨rR_ HO_13.out⟩, ⟨bk_ BK130.out⟩, ⟨hB_⟩⟩
      ·replace c15 := Bool.eq_false_iff.mpr c15
       subst c15
       have H1 : (if x7_1.length < 17592186044416 then (impl_AnswersTo.l0 k1 l1 (x7_1 ++ [rd t134 x15_1]) t134 (t134.length : Int) (wrap64 (x15_1 + 1))) else (none)) = some r := by rw [if_neg (show ¬ (false = true) by decide)] at H; exact H
       clear H
       have H := H1
       clear H1
       by_cases c16 : x7_1.length < 17592186044416
       ·rw [if_pos c16] at H
        have LMc16 := Aside0.mk c16
        clear c16
        obtain ⟨y139, hy139⟩ : ∃ y_ : List Int, y_ = (x7_1 ++ [rd t134 x15_1]) := ⟨_, rfl⟩
        replace H : (impl_AnswersTo.l0 k1 l1 y139 t134 (t134.length : Int) (wrap64 (x15_1 + 1))) = some r := hy_ hy139 H
        have Ny139 := Aside0.mk hy139
        clear hy139
        have H' := Aside0.mk H
        clear H
        have p137 : 0 ≤ (x15_1 : Int) := of_decide_eq_true as_
        have q137 : x15_1 < (t134.length : Int) := of_decide_eq_true as_
        obtain ⟨ad137, e137, hx137_0⟩ := Zv (Zp HO_13.out).2.2 x15_1 p137 q137
        cases e137
        replace p137 := eq_true p137
        replace q137 := eq_true q137
        go_wp2_with (first | ((with_reducible refine Zj (f := 80) rfl ?_); refine ZE (some 21) rfl rfl Try.func80 (by kernel_rfl) rfl #[.slice A1 l1.length c1, .int .i64 (rd t134 x15_1)] rfl ar_ ?_; (with_reducible refine (slices_Contains_int_int.calls k1 _ _ l1 (rd t134 x15_1) false _ ?side1 ?side2 A14.out).mono ?_); (case side1 => exact cb_ HR1.out); (case side2 => exact HC1.out); rintro e w' ⟨rfl, ⟨nd, rfl⟩⟩; refine ⟨_, rfl, ?_⟩) | ((with_reducible refine gate_builtin (b := .append) (xs := #[.tmp 23, .tmp 25]) rfl ?_); at_builtin; refine Kd.R_append (Kd.int .i64) (w0 := w) w.heap.size rfl (.tmp 23) (.tmp 25) 31 3 (.int .i64 0) 8 rfl Try.underlying31 info3 rfl (by decide) (by omega) u7 x7_1 (rd t134 x15_1) [.int .i64 (rd t134 x15_1)] (fun k_ => some k_ ≠ (.slice (some ad137) t134.length co10 : Value).ownBlock) (fun _ => False) rfl rfl ?aP (fun _ hk => hk.elim) ?aF ?aO ?aB ?aS ?aL ?_; (case aP => exact rfl); (case aB => exact hB_); (case aF => exact (fun k_ hk => Kd.fresh' (Kd.R_lt (rR_ HO_13.out)) k_ hk)); (case aO => exact (rR_ HO_7.out)); (case aS => exact (Zl hB_)); (case aL => have := LMc16.out; omega); intro v140 w17 ho hb hg hat; rw [← Ny139.out] at ho; have n0_ := Aside0.mk (Kd.R_after (ok := (fun _ => True)) (by (with_reducible repeat (first | apply Kd.R_alloc | apply Kd.R_drewN | apply ZR)); exact Zz HO_13.out (fun _ hk => ⟨trivial, hk⟩)) hg hat); have n1_ := Aside0.mk (ZO (g := gb130) (o := .cells #[.int .i64 a0_0, .slice A0_1 l0_1.length c0_1] 27 (0, 0)) (bk_ BK130.out) hg (Kd.R_ne HO_7.out BK130.out (by decide))); have n2_ := Aside0.mk (hb); have n3_ := Aside0.mk (ho); clear HO_13; clear BK130; clear HB; clear HO_7; have HO_13 := n0_; have BK130 := n1_; have HB := n2_; have HO141 := n3_; clear n0_ n1_ n2_ n3_; clear ho hb hg hat))
        go_roundg k1
        case measure => have := HK1.out; omega
        case rel => exact ⟨(y139), (wrap64 (x15_1 + 1)), sm_, H', ⟨by have := HK1.out; omega⟩, ⟨rR_ HO141.out⟩, ⟨by (with_reducible repeat (first | apply Kd.R_alloc | apply Kd.R_drewN | apply ZR)); exact Zz HO_13.out (fun _ hk => hk.2)⟩, ⟨bk_ BK130.out⟩, ⟨hB_⟩⟩
       ·rw [if_neg c16] at H
        exact absurd H (by simp)
     ·rw [if_neg c13] at H
      exact absurd H (by simp)
    ·rw [if_neg c12] at H
     exact absurd H (by simp)
   ·rw [if_neg c11] at H
    have c11b0 : decide (x15_1 < (t134.length : Int)) = false := decide_eq_false c11
    clear c11
    obtain rfl := Option.some.inj H
    go_wp2
    go_ret
    exact ⟨_, er_, by (with_reducible repeat (first | apply Kd.R_alloc | apply Kd.R_drewN | apply ZR)); exact Zz HO_7.out (fun _ hk => trivial), hB_⟩

end Go.Proofs.Ytdlobolnajcfnaa.PFnGames
