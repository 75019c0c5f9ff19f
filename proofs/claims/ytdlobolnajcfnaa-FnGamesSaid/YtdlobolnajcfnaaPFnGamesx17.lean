-- Written by a program of this session (hooks of mine on the print): Lean checks it.
import Derived.Test.YtdlobolnajcfnaaPFnGamesx0
import Derived.Test.YtdlobolnajcfnaaPFnGamesx2
import Derived.Test.YtdlobolnajcfnaaPFnGamesx3
import Derived.Test.YtdlobolnajcfnaaPFnGamesx5
import Derived.Test.YtdlobolnajcfnaaPFnGamesx15
import Derived.Test.YtdlobolnajcfnaaPFnGamesx16
namespace Go.Proofs.Ytdlobolnajcfnaa.PFnGames
open Go.RowKit Go.Proofs.YtdlobolnajcfnaaW.PrintWords Go.Proofs.YtdlobolnajcfnaaW.PrintLast Go.Proofs.YtdlobolnajcfnaaW.PrintMore
attribute [local go_sem] max2_int min2_int max_two min_two max_three min_three max_four min_four   -- for this text's walks alone
set_option linter.unusedVariables false
set_option linter.unusedSimpArgs false

/-! ### impl_WinnerOf: function 37 -/
def impl_WinnerOf.j0 : Nat → List Int → Int → Bool → Int → List (List Int) → Option (ByteArray)
 | 0, _, _, _, _, _ => none
 | k + 1, x1, x5, x16, x501000, x501001 => if x16 = true then (some (⟨#[102, 105, 114, 115, 116]⟩ : ByteArray)) else (if ((x1.length : Int) % 2) = 0 then ((impl_evens.f k x1).bind fun t506 => ((impl_AnswersTo.f k x501000 x501001 t506 x5).bind fun t509 => (if (t509.length : Int) = 0 then (some (⟨#[115, 101, 99, 111, 110, 100]⟩ : ByteArray)) else (some (⟨#[110, 111, 110, 101]⟩ : ByteArray))))) else (some (⟨#[110, 111, 110, 101]⟩ : ByteArray)))
def impl_WinnerOf.f (k : Nat) (a0_0 : Int) (l0_1 : List (List Int)) (l1 : List Int) : Option (ByteArray) := (impl_IsLine.f k a0_0 l0_1 l1).bind fun t501 => (if t501 = true then (if 0 ≤ (wrap64 ((l1.length : Int) - 1)) then (if (wrap64 ((l1.length : Int) - 1)) < (l1.length : Int) then (if ((l1.length : Int) % 2) = 1 then ((impl_AttackersOf.f k a0_0 l0_1 (rd l1 (wrap64 ((l1.length : Int) - 1)))).bind fun t503 => (impl_WinnerOf.j0 k l1 (rd l1 (wrap64 ((l1.length : Int) - 1))) ((t503.length : Int) == 0) a0_0 l0_1)) else (impl_WinnerOf.j0 k l1 (rd l1 (wrap64 ((l1.length : Int) - 1))) false a0_0 l0_1)) else (none)) else (none)) else (some (⟨#[]⟩ : ByteArray)))
theorem impl_WinnerOf.mono_l : ∀ k, (∀ y0 y1 y2 y3 y4, LeO (impl_WinnerOf.j0 k y0 y1 y2 y3 y4) (impl_WinnerOf.j0 (k + 1) y0 y1 y2 y3 y4))
 | 0 => fun _ _ _ _ _ r h => by simp [impl_WinnerOf.j0] at h
 | k + 1 => by
  have ih0 := impl_WinnerOf.mono_l k
  ·intro y0 y1 y2 y3 y4
   unfold impl_WinnerOf.j0
   repeat' first
   | (with_reducible exact ih0 _ _ _ _ _)
   | (with_reducible exact impl_AnswersTo.mono _ _ _ _ _)
   | (with_reducible exact impl_AttackersOf.mono _ _ _ _)
   | (with_reducible exact impl_IsLine.mono _ _ _ _)
   | (with_reducible exact impl_evens.mono _ _)
   | (with_reducible exact ZJ _)
   | (with_reducible exact Zn _)
   | (with_reducible refine Zt ?_ ?_)
   | (with_reducible refine Zo ?_ (fun _ => ?_))
   | exact ih0 _ _ _ _ _
   | exact impl_AnswersTo.mono _ _ _ _ _
   | exact impl_AttackersOf.mono _ _ _ _
   | exact impl_IsLine.mono _ _ _ _
   | exact impl_evens.mono _ _
   | exact Zn _
   | refine Zt ?_ ?_
   | refine Zo ?_ (fun _ => ?_)
theorem impl_WinnerOf.mono : ∀ a0 a1 a2 k, LeO (impl_WinnerOf.f k a0 a1 a2) (impl_WinnerOf.f (k + 1) a0 a1 a2) := by
 intro a0 a1 a2 k
 have ih0 := impl_WinnerOf.mono_l k
 unfold impl_WinnerOf.f
 repeat' first
   | (with_reducible exact ih0 _ _ _ _ _)
   | (with_reducible exact impl_AnswersTo.mono _ _ _ _ _)
   | (with_reducible exact impl_AttackersOf.mono _ _ _ _)
   | (with_reducible exact impl_IsLine.mono _ _ _ _)
   | (with_reducible exact impl_evens.mono _ _)
   | (with_reducible exact ZJ _)
   | (with_reducible exact Zn _)
   | (with_reducible refine Zt ?_ ?_)
   | (with_reducible refine Zo ?_ (fun _ => ?_))
   | exact ih0 _ _ _ _ _
   | exact impl_AnswersTo.mono _ _ _ _ _
   | exact impl_AttackersOf.mono _ _ _ _
   | exact impl_IsLine.mono _ _ _ _
   | exact impl_evens.mono _ _
   | exact Zn _
   | refine Zt ?_ ?_
   | refine Zo ?_ (fun _ => ?_)
def impl_WinnerOf.T6 : Bool × List (List Nat × List Nat) := (true, [([], []), ([0], [0]), ([1], [1]), ([2], [2]), ([3], [3]), ([4], [4]), ([4], [4]), ([6, 4, 4], [4, 6]), ([4], [4]), ([5, 7, 8, 7, 4], [4, 5, 7, 8]), ([9, 4], [4, 9]), ([10, 4], [4, 10]), ([4, 11], [4, 11]), ([12, 9], [12])])
def impl_WinnerOf.B6 : List Nat := [0, 1, 3, 7, 15, 31, 31, 95, 31, 511, 1023, 2047, 4095, 8191]
theorem impl_WinnerOf.tab6 : rtab .any (opsOf Try.f37 6) = impl_WinnerOf.T6 := by kernel_rfl
theorem impl_WinnerOf.bits6 : waitsOk impl_WinnerOf.T6.2 impl_WinnerOf.B6 = true := by kernel_rfl
set_option maxHeartbeats 8000000 in
set_option maxRecDepth 100000 in
theorem impl_WinnerOf.calls (k : Nat) (a0_0 : Int) (A0_1 : Option Addr) (c0_1 : Nat) (l0_1 : List (List Int)) (A1 : Option Addr) (c1 : Nat) (l1 : List Int) (r : ByteArray) (w : World) (hr0_1 : Kd.C (Kd.slice 3 (Kd.int .i64)) w A0_1 l0_1.length l0_1) (hc0_1 : l0_1.length ≤ c0_1) (hr1 : Kd.C (Kd.int .i64) w A1 l1.length l1) (hc1 : l1.length ≤ c1) (h : impl_WinnerOf.f k a0_0 l0_1 l1 = some r) :
  Calls Try.prog 37 #[.agg #[.int .i64 a0_0, .slice A0_1 l0_1.length c0_1], .slice A1 l1.length c1] w fun e w' => e = .returned (.string r) ∧ Below w.heap.size w w' := by
 have hu27 := Try.underlying27
 have HR0_1 := Aside0.mk hr0_1
 have HC0_1 := Aside0.mk hc0_1
 clear hr0_1 hc0_1
 have HR1 := Aside0.mk hr1
 have HC1 := Aside0.mk hc1
 clear hr1 hc1
 have HB := Aside0.mk (Below.refl w.heap.size w)
 have H : ((impl_IsLine.f k a0_0 l0_1 l1).bind fun t501 => (if t501 = true then (if 0 ≤ (wrap64 ((l1.length : Int) - 1)) then (if (wrap64 ((l1.length : Int) - 1)) < (l1.length : Int) then (if ((l1.length : Int) % 2) = 1 then ((impl_AttackersOf.f k a0_0 l0_1 (rd l1 (wrap64 ((l1.length : Int) - 1)))).bind fun t503 => (impl_WinnerOf.j0 k l1 (rd l1 (wrap64 ((l1.length : Int) - 1))) ((t503.length : Int) == 0) a0_0 l0_1)) else (impl_WinnerOf.j0 k l1 (rd l1 (wrap64 ((l1.length : Int) - 1))) false a0_0 l0_1)) else (none)) else (none)) else (some (⟨#[]⟩ : ByteArray)))) = some r := h
 clear h
 replace H := Option.bind_eq_some_iff.mp H
 obtain ⟨t501, A30, H⟩ := H
 replace H : (if t501 = true then (if 0 ≤ (wrap64 ((l1.length : Int) - 1)) then (if (wrap64 ((l1.length : Int) - 1)) < (l1.length : Int) then (if ((l1.length : Int) % 2) = 1 then ((impl_AttackersOf.f k a0_0 l0_1 (rd l1 (wrap64 ((l1.length : Int) - 1)))).bind fun t503 => (impl_WinnerOf.j0 k l1 (rd l1 (wrap64 ((l1.length : Int) - 1))) ((t503.length : Int) == 0) a0_0 l0_1)) else (impl_WinnerOf.j0 k l1 (rd l1 (wrap64 ((l1.length : Int) - 1))) false a0_0 l0_1)) else (none)) else (none)) else (some (⟨#[]⟩ : ByteArray))) = some r := H
 have A3 := Aside0.mk A30
 clear A30
 by_cases c4 : t501 = true
 ·subst c4
  have H1 : (if 0 ≤ (wrap64 ((l1.length : Int) - 1)) then (if (wrap64 ((l1.length : Int) - 1)) < (l1.length : Int) then (if ((l1.length : Int) % 2) = 1 then ((impl_AttackersOf.f k a0_0 l0_1 (rd l1 (wrap64 ((l1.length : Int) - 1)))).bind fun t503 => (impl_WinnerOf.j0 k l1 (rd l1 (wrap64 ((l1.length : Int) - 1))) ((t503.length : Int) == 0) a0_0 l0_1)) else (impl_WinnerOf.j0 k l1 (rd l1 (wrap64 ((l1.length : Int) - 1))) false a0_0 l0_1)) else (none)) else (none)) = some r := by rw [if_pos rfl] at H; exact H
  clear H
  have H := H1
  clear H1
  obtain ⟨ji5, hji5⟩ : ∃ j_ : Int, (wrap64 ((l1.length : Int) - 1)) = j_ := ⟨_, rfl⟩
  replace H : (if 0 ≤ (ji5) then (if (ji5) < (l1.length : Int) then (if ((l1.length : Int) % 2) = 1 then ((impl_AttackersOf.f k a0_0 l0_1 (rd l1 (ji5))).bind fun t503 => (impl_WinnerOf.j0 k l1 (rd l1 (ji5)) ((t503.length : Int) == 0) a0_0 l0_1)) else (impl_WinnerOf.j0 k l1 (rd l1 (ji5)) false a0_0 l0_1)) else (none)) else (none)) = some r := by first | (rw [hji5] at H; exact H) | (simp only [hji5] at H ⊢; exact H)
  (try rw [hji5] at A3)
  have hji5w : (IntKind.i64.wrap ((l1.length : Int) - 1)) = ji5 := (i64_w _).trans hji5
  by_cases c6 : 0 ≤ (ji5)
  ·rw [if_pos c6] at H
   have c6b0 : decide (0 ≤ (ji5)) = true := decide_eq_true c6
   clear c6
   by_cases c7 : (ji5) < (l1.length : Int)
   ·rw [if_pos c7] at H
    have c7b0 : decide ((ji5) < (l1.length : Int)) = true := decide_eq_true c7
    clear c7
    have HC8 := Aside0.mk H
    clear H
    go_enter Try.func37, Try.ntmps37
    go_upto_region 4 with (first | ((with_reducible refine ZD (N := 2) rfl ?_); (try (refine gate_guard (by rfl) ?_; dsimp only)); refine ZH ?hg (N := 2) ?hd (cs := #[.int .i64 a0_0, .slice A0_1 l0_1.length c0_1]) (t := 27) ?hr ?_; (case hd => rfl); (case hg => rfl); (case hr => first | (go_simp; done) | (go_simp; rfl)); intro gb500 hg w9 hbox hb; have BK500 := Aside0.mk (hbox); have GW500 := Aside0.mk ((hz_ hg : w.heap.size ≤ gb500)); have GE500 := Aside0.mk ((hz_ hg : w.heap.size ≤ gb500)); replace HB := Aside0.mk (Ze hB_ hb); clear hb hbox hg; have hcz10_0 : w9.cell? ⟨gb500, 0, none⟩ = some (.int .i64 a0_0) := (Za BK500.out 0).trans rfl; have hcz10_1 : w9.cell? ⟨gb500, 1, none⟩ = some (.slice A0_1 l0_1.length c0_1) := (Za BK500.out 1).trans rfl; have hfz10_0 := Zb BK500.out 0; have hfz10_1 := Zb BK500.out 1) | ((with_reducible refine Zj (f := 38) rfl ?_); refine ZE (some 8) rfl rfl Try.func38 (by kernel_rfl) rfl #[.agg #[.int .i64 a0_0, .slice A0_1 l0_1.length c0_1], .slice A1 l1.length c1] rfl ar_ ?_; (with_reducible refine (impl_IsLine.calls k a0_0 _ _ l0_1 _ _ l1 true _ ?side1 ?side2 ?side3 ?side4 A3.out).mono ?_); (case side1 => exact cb_ HR0_1.out); (case side2 => exact HC0_1.out); (case side3 => exact cb_ HR1.out); (case side4 => exact HC1.out); rintro e w11 ⟨rfl, hb⟩; refine ⟨_, rfl, ?_⟩; replace BK500 := Aside0.mk (Zc (g := gb500) (o := .cells #[.int .i64 a0_0, .slice A0_1 l0_1.length c0_1] 27 (0, 0)) (bk_ BK500.out) hb); replace HB := Aside0.mk (Ze hB_ hb); (try clear hb); (try clear hb2); (try clear hk); (try clear hi); have p502 : 0 ≤ ((ji5) : Int) := of_decide_eq_true as_; have q502 : (ji5) < (l1.length : Int) := of_decide_eq_true as_; obtain ⟨ad502, e502, hx502_0⟩ := Zv HR1.out (ji5) p502 q502; cases e502; replace hx502_0 := (HB.out.cell (World.block_lt_of_cell? w _ hx502_0)).trans hx502_0; replace p502 := eq_true p502; replace q502 := eq_true q502))
    (try simp only [Act.put, List.setIfInBounds_toArray, List.set_cons_zero, List.set_cons_succ])
    go_cut [16] (fun v16 wc => ∃ (kq : Nat) (x16_7 : Bool), v16 = .bool x16_7 ∧ Aside0 (impl_WinnerOf.j0 kq l1 (rd l1 (ji5)) x16_7 a0_0 l0_1 = some r) ∧ Aside0 (kq ≤ k) ∧ Aside0 (wc.heap[gb500]? = some (.cells #[.int .i64 a0_0, (.slice A0_1 l0_1.length c0_1)] 27 (0, 0))) ∧ Aside0 (Below w.heap.size w wc))
    case first =>
     have H := HC8.out
     clear HC8
     by_cases c12 : ((l1.length : Int) % 2) = 1
     ·rw [if_pos c12] at H
      have c12b0 : (((l1.length : Int) % 2) == 1) = true := beq_iff_eq.mpr c12
      have c12z : (Int.tmod (l1.length : Int) 2 == 1) = true := by (first | (rw [Int.tmod_eq_emod_of_nonneg (by omega)]; exact c12b0) | (rw [Int.tmod_eq_emod (by omega)]; exact c12b0) | (rw [Int.tmod_eq_emod]; simpa using c12b0))
      have c12b1 : (((l1.length : Int) % 2) != 1) = false := bne_eq_false_iff_eq.mpr c12
      clear c12
      (first | rw [c12b0] | (simp only [i64_w, i32_w]; rw [c12b0]) | skip)
      replace H := Option.bind_eq_some_iff.mp H
      obtain ⟨t503, A130, H⟩ := H
      replace H : (impl_WinnerOf.j0 k l1 (rd l1 (ji5)) ((t503.length : Int) == 0) a0_0 l0_1) = some r := H
      have A13 := Aside0.mk A130
      clear A130
      have H' := Aside0.mk H
      clear H
      have hcz14_0 : w11.cell? ⟨gb500, 0, none⟩ = some (.int .i64 a0_0) := (Za BK500.out 0).trans rfl
      have hcz14_1 : w11.cell? ⟨gb500, 1, none⟩ = some (.slice A0_1 l0_1.length c0_1) := (Za BK500.out 1).trans rfl
      have hfz14_0 := Zb BK500.out 0
      have hfz14_1 := Zb BK500.out 1
      go_wp2_with (first | (go_at_call 40; (with_reducible refine (impl_AttackersOf.calls k a0_0 _ _ l0_1 (rd l1 (ji5)) t503 _ ?side1 ?side2 A13.out).mono ?_); (case side1 => exact cb_ HR0_1.out); (case side2 => exact HC0_1.out); rintro e w15 ⟨v504, rfl, ho0, hb⟩; have HO505 := Aside0.mk (ZI ho0 (Zl hB_)); replace BK500 := Aside0.mk (Zc (g := gb500) (o := .cells #[.int .i64 a0_0, .slice A0_1 l0_1.length c0_1] 27 (0, 0)) (bk_ BK500.out) hb); replace HB := Aside0.mk (Ze hB_ hb); (try clear hb); (try clear hb2); (try clear hk); (try clear hi); (try clear ho0); obtain ⟨Ao16, co16, eo16⟩ := ZP HO505.out; subst eo16))
      go_meet
      case rel => exact ⟨_, (((t503.length : Int) == 0)), sm_, H', ⟨by first | omega | exact Nat.le_refl _⟩, ⟨bk_ BK500.out⟩, ⟨hB_⟩⟩
     ·rw [if_neg c12] at H
      have c12b0 : (((l1.length : Int) % 2) == 1) = false := beq_eq_false_iff_ne.mpr c12
      have c12z : (Int.tmod (l1.length : Int) 2 == 1) = false := by (first | (rw [Int.tmod_eq_emod_of_nonneg (by omega)]; exact c12b0) | (rw [Int.tmod_eq_emod (by omega)]; exact c12b0) | (rw [Int.tmod_eq_emod]; simpa using c12b0))
      have c12b1 : (((l1.length : Int) % 2) != 1) = true := bne_iff_ne.mpr c12
      (first | rw [c12b0] | (simp only [i64_w, i32_w]; rw [c12b0]) | skip)
      have H' := Aside0.mk H
      clear H
      go_wp2
      go_meet
      case rel => exact ⟨_, (false), sm_, H', ⟨by first | omega | exact Nat.le_refl _⟩, ⟨bk_ BK500.out⟩, ⟨hB_⟩⟩
    case rest =>
     clear HC8
     try clear c1
     try clear p2
     try clear c3
     try clear c4
     try clear p5
     try clear q5
     try clear hx5
     try clear c6
     try clear c6b0
     try clear p6
     try clear c7
     try clear c7b0
     try clear c12
     try clear c12b0
     try clear c12b1
     try clear hcz10_0
     try clear hcz10_1
     try clear hcz14_0
     try clear hcz14_1
     try clear hfz10_0
     try clear hfz10_1
     try clear hfz14_0
     try clear hfz14_1
     try clear hx502_0
     try clear p502
     try clear q502
     obtain ⟨kq, x16_7, rfl, HA, HJ7, BK500, HB⟩ := hcut
     cases kq with
     | zero => exact absurd HA.out (by simp [impl_WinnerOf.j0])
     | succ kj7 =>
      have H := HA.out
      clear HA
      simp only [impl_WinnerOf.j0] at H
      by_cases c17 : x16_7 = true
      ·subst c17
       have H1 : (some (⟨#[102, 105, 114, 115, 116]⟩ : ByteArray)) = some r := by rw [if_pos rfl] at H; exact H
       clear H
       have H := H1
       clear H1
       obtain rfl := Option.some.inj H
       go_wp2
       go_ret
       exact ⟨by first | rfl | (simp [errW_none, errW_some] <;> rfl) | (simp only [← hji5]; first | rfl | (simp [errW_none, errW_some] <;> rfl)) | (simp [*, errW_none, errW_some] <;> rfl), hB_⟩
      ·replace c17 := Bool.eq_false_iff.mpr c17
       subst c17
       have H1 : (if ((l1.length : Int) % 2) = 0 then ((impl_evens.f kj7 l1).bind fun t506 => ((impl_AnswersTo.f kj7 a0_0 l0_1 t506 (rd l1 (ji5))).bind fun t509 => (if (t509.length : Int) = 0 then (some (⟨#[115, 101, 99, 111, 110, 100]⟩ : ByteArray)) else (some (⟨#[110, 111, 110, 101]⟩ : ByteArray))))) else (some (⟨#[110, 111, 110, 101]⟩ : ByteArray))) = some r := by rw [if_neg (show ¬ (false = true) by decide)] at H; exact H
       clear H
       have H := H1
       clear H1
       by_cases c18 : ((l1.length : Int) % 2) = 0
       ·rw [if_pos c18] at H
        have c18b0 : (((l1.length : Int) % 2) == 0) = true := beq_iff_eq.mpr c18
        have c18z : (Int.tmod (l1.length : Int) 2 == 0) = true := by (first | (rw [Int.tmod_eq_emod_of_nonneg (by omega)]; exact c18b0) | (rw [Int.tmod_eq_emod (by omega)]; exact c18b0) | (rw [Int.tmod_eq_emod]; simpa using c18b0))
        have c18b1 : (((l1.length : Int) % 2) != 0) = false := bne_eq_false_iff_eq.mpr c18
        clear c18
        replace H := Option.bind_eq_some_iff.mp H
        obtain ⟨t506, A190, H⟩ := H
        replace H : ((impl_AnswersTo.f kj7 a0_0 l0_1 t506 (rd l1 (ji5))).bind fun t509 => (if (t509.length : Int) = 0 then (some (⟨#[115, 101, 99, 111, 110, 100]⟩ : ByteArray)) else (some (⟨#[110, 111, 110, 101]⟩ : ByteArray)))) = some r := H
        have A19 := Aside0.mk A190
        clear A190
        replace H := Option.bind_eq_some_iff.mp H
        obtain ⟨t509, A200, H⟩ := H
        replace H : (if (t509.length : Int) = 0 then (some (⟨#[115, 101, 99, 111, 110, 100]⟩ : ByteArray)) else (some (⟨#[110, 111, 110, 101]⟩ : ByteArray))) = some r := H
        have A20 := Aside0.mk A200
        clear A200
        by_cases c21 : (t509.length : Int) = 0
        ·rw [if_pos c21] at H
         have c21b0 : ((t509.length : Int) == 0) = true := beq_iff_eq.mpr c21
         have c21b1 : ((t509.length : Int) != 0) = false := bne_eq_false_iff_eq.mpr c21
         clear c21
         obtain rfl := Option.some.inj H
         try go_wp2
         replace BK500 := Aside0.mk (Zd BK500.out)
         replace HB := Aside0.mk (Zi HB.out)
         refine start_ (n := 14) (S := fun w' => w'.cell? ⟨gb500, 0, none⟩ = some (.int .i64 a0_0) ∧ w'.cell? ⟨gb500, 1, none⟩ = some (.slice A0_1 l0_1.length c0_1)) (ds := []) #[O,O,O,O,O,O,O,O,O,O,O,O,O,O] (by kernel_rfl) rfl rfl ⟨(Za BK500.out 0).trans rfl, (Za BK500.out 1).trans rfl⟩ (fun hHeld => ?_); refine with_tabW impl_WinnerOf.tab6 impl_WinnerOf.bits6 (fun HT_ HW_ => ?_)
         generalize wc.drew = w22 at BK500 HB hHeld ⊢
         refine pu_ 0 29 #[Y,O,O,O,O,O,O,O,O,O,O,O,O,O] ?_
         refine pu_ 1 30 #[Y,Y,O,O,O,O,O,O,O,O,O,O,O,O] ?_
         refine pu_ 2 31 #[Y,Y,Y,O,O,O,O,O,O,O,O,O,O,O] ?_
         refine pu_ 3 32 #[Y,Y,Y,Y,O,O,O,O,O,O,O,O,O,O] ?_
         refine pu_ 4 33 #[Y,Y,Y,Y,Y,O,O,O,O,O,O,O,O,O] ?_
         refine pu_ 6 35 #[Y,Y,Y,Y,Y,O,Y,O,O,O,O,O,O,O] ?_
         refine pu_ 8 37 #[Y,Y,Y,Y,Y,O,Y,O,Y,O,O,O,O,O] ?_
         refine tk2_ 5 34 #[Y,Y,Y,Y,Y,Y,Y,O,Y,O,O,O,O,O] hHeld ?_
         refine on_ 7 36 #[Y,Y,Y,Y,Y,Y,Y,Y,Y,O,O,O,O,O] (fun K hK => ?_)
         refine goes_ Try.func87 (by kernel_rfl) rfl #[.slice (some ad502) l1.length c1] (by rfl) rfl rfl ar_ ?_
         with_reducible refine (impl_evens.calls kj7 _ _ l1 t506 _ ?side1 ?side2 A19.out).mono ?_
         (case side1 => exact cb_ HR1.out)
         (case side2 => exact HC1.out)
         rintro e w23 ⟨v507, rfl, ho0, hb⟩
         refine ⟨_, rfl, ?_⟩
         have HO508 := Aside0.mk (ZI ho0 (Zl hB_))
         replace BK500 := Aside0.mk (Zc (g := gb500) (o := .cells #[.int .i64 a0_0, .slice A0_1 l0_1.length c0_1] 27 (0, 0)) (bk_ BK500.out) hb)
         replace HB := Aside0.mk (Ze hB_ hb)
         (try clear hb)
         (try clear hb2)
         (try clear hk)
         (try clear hi)
         (try clear ho0)
         obtain ⟨Ao24, co24, eo24⟩ := ZP HO508.out
         (first | subst eo24 | (injection eo24 with f1_ f2_ f3_; have f4_ := f1_.symm; have f5_ := f3_.symm; clear f1_ f2_ f3_; subst f4_; subst f5_))
         refine hK.out _ _ ⟨(Za BK500.out 0).trans rfl, (Za BK500.out 1).trans rfl⟩ (fun hHeld => ?_)
         clear hK K
         refine no_ 36 ?_
         refine on_ 9 38 #[Y,Y,Y,Y,Y,Y,Y,Y,Y,Y,O,O,O,O] (fun K hK => ?_)
         refine goes_ Try.func35 (by kernel_rfl) rfl #[.agg #[.int .i64 a0_0, .slice A0_1 l0_1.length c0_1], .slice Ao24 t506.length co24, .int .i64 (rd l1 (ji5))] (by rfl) rfl rfl (by (try simp only [List.map_toArray, List.map_cons, List.map_nil]); first | done | (simp only [hji5]; rfl) | rfl | (simp only [List.length_drop, List.length_take]; rfl)) ?_
         with_reducible refine (impl_AnswersTo.calls kj7 a0_0 _ _ l0_1 _ _ t506 (rd l1 (ji5)) t509 _ ?side1 ?side2 ?side3 ?side4 A20.out).mono ?_
         (case side1 => exact cb_ HR0_1.out)
         (case side2 => exact HC0_1.out)
         (case side3 => repeat (first | exact (Zp HO508.out).2.2 | (with_reducible refine ZB ?_ _) | (with_reducible refine ZA ?_ _) | (with_reducible refine ZG ?_)))
         (case side4 => exact (Zp HO508.out).2.1)
         rintro e w25 ⟨v510, rfl, ho0, hb⟩
         refine ⟨_, rfl, ?_⟩
         have HO511 := Aside0.mk (ZI (Kd.R_new' ho0 (Kd.R_lt (rR_ HO508.out))) (Zl hB_))
         replace HO508 := Aside0.mk (Kd.R_elder' (rR_ HO508.out) (ZS ho0) hb)
         replace BK500 := Aside0.mk (Zc (g := gb500) (o := .cells #[.int .i64 a0_0, .slice A0_1 l0_1.length c0_1] 27 (0, 0)) (bk_ BK500.out) hb)
         replace HB := Aside0.mk (Ze hB_ hb)
         (try clear hb)
         (try clear hb2)
         (try clear hk)
         (try clear hi)
         (try clear ho0)
         obtain ⟨Ao26, co26, eo26⟩ := ZP HO511.out
         (first | subst eo26 | (injection eo26 with f1_ f2_ f3_; have f4_ := f1_.symm; have f5_ := f3_.symm; clear f1_ f2_ f3_; subst f4_; subst f5_))
         refine hK.out _ _ ⟨(Za BK500.out 0).trans rfl, (Za BK500.out 1).trans rfl⟩ (fun hHeld => ?_)
         clear hK K
         refine no_ 38 ?_
         refine pu_ 10 39 #[Y,Y,Y,Y,Y,Y,Y,Y,Y,Y,Y,O,O,O] ?_
         refine pu_ 11 40 #[Y,Y,Y,Y,Y,Y,Y,Y,Y,Y,Y,Y,O,O] ?_
         refine pu_ 12 41 #[Y,Y,Y,Y,Y,Y,Y,Y,Y,Y,Y,Y,Y,O] ?_
         refine pu_ 13 28 #[Y,Y,Y,Y,Y,Y,Y,Y,Y,Y,Y,Y,Y,Y] ?_
         refine done_ (done_of HT_.out (by kernel_rfl)) ?_
         try go_wp2
         go_ret
         exact ⟨by first | rfl | (simp [errW_none, errW_some] <;> rfl) | (simp only [← hji5]; first | rfl | (simp [errW_none, errW_some] <;> rfl)) | (simp [*, errW_none, errW_some] <;> rfl), hB_⟩
        ·rw [if_neg c21] at H
         have c21b0 : ((t509.length : Int) == 0) = false := beq_eq_false_iff_ne.mpr c21
         have c21b1 : ((t509.length : Int) != 0) = true := bne_iff_ne.mpr c21
         have c21b2 : ¬ (t509 = []) := fun h_ => c21 (by rw [h_]; rfl)
         obtain rfl := Option.some.inj H
         try go_wp2
         replace BK500 := Aside0.mk (Zd BK500.out)
         replace HB := Aside0.mk (Zi HB.out)
         refine start_ (n := 14) (S := fun w' => w'.cell? ⟨gb500, 0, none⟩ = some (.int .i64 a0_0) ∧ w'.cell? ⟨gb500, 1, none⟩ = some (.slice A0_1 l0_1.length c0_1)) (ds := []) #[O,O,O,O,O,O,O,O,O,O,O,O,O,O] (by kernel_rfl) rfl rfl ⟨(Za BK500.out 0).trans rfl, (Za BK500.out 1).trans rfl⟩ (fun hHeld => ?_); refine with_tabW impl_WinnerOf.tab6 impl_WinnerOf.bits6 (fun HT_ HW_ => ?_)
         generalize wc.drew = w27 at BK500 HB hHeld ⊢
         refine pu_ 0 29 #[Y,O,O,O,O,O,O,O,O,O,O,O,O,O] ?_
         refine pu_ 1 30 #[Y,Y,O,O,O,O,O,O,O,O,O,O,O,O] ?_
         refine pu_ 2 31 #[Y,Y,Y,O,O,O,O,O,O,O,O,O,O,O] ?_
         refine pu_ 3 32 #[Y,Y,Y,Y,O,O,O,O,O,O,O,O,O,O] ?_
         refine pu_ 4 33 #[Y,Y,Y,Y,Y,O,O,O,O,O,O,O,O,O] ?_
         refine pu_ 6 35 #[Y,Y,Y,Y,Y,O,Y,O,O,O,O,O,O,O] ?_
         refine pu_ 8 37 #[Y,Y,Y,Y,Y,O,Y,O,Y,O,O,O,O,O] ?_
         refine tk2_ 5 34 #[Y,Y,Y,Y,Y,Y,Y,O,Y,O,O,O,O,O] hHeld ?_
         refine on_ 7 36 #[Y,Y,Y,Y,Y,Y,Y,Y,Y,O,O,O,O,O] (fun K hK => ?_)
         refine goes_ Try.func87 (by kernel_rfl) rfl #[.slice (some ad502) l1.length c1] (by rfl) rfl rfl ar_ ?_
         with_reducible refine (impl_evens.calls kj7 _ _ l1 t506 _ ?side1 ?side2 A19.out).mono ?_
         (case side1 => exact cb_ HR1.out)
         (case side2 => exact HC1.out)
         rintro e w28 ⟨v507, rfl, ho0, hb⟩
         refine ⟨_, rfl, ?_⟩
         have HO508 := Aside0.mk (ZI ho0 (Zl hB_))
         replace BK500 := Aside0.mk (Zc (g := gb500) (o := .cells #[.int .i64 a0_0, .slice A0_1 l0_1.length c0_1] 27 (0, 0)) (bk_ BK500.out) hb)
         replace HB := Aside0.mk (Ze hB_ hb)
         (try clear hb)
         (try clear hb2)
         (try clear hk)
         (try clear hi)
         (try clear ho0)
         obtain ⟨Ao29, co29, eo29⟩ := ZP HO508.out
         (first | subst eo29 | (injection eo29 with f1_ f2_ f3_; have f4_ := f1_.symm; have f5_ := f3_.symm; clear f1_ f2_ f3_; subst f4_; subst f5_))
         refine hK.out _ _ ⟨(Za BK500.out 0).trans rfl, (Za BK500.out 1).trans rfl⟩ (fun hHeld => ?_)
         clear hK K
         refine no_ 36 ?_
         refine on_ 9 38 #[Y,Y,Y,Y,Y,Y,Y,Y,Y,Y,O,O,O,O] (fun K hK => ?_)
         refine goes_ Try.func35 (by kernel_rfl) rfl #[.agg #[.int .i64 a0_0, .slice A0_1 l0_1.length c0_1], .slice Ao29 t506.length co29, .int .i64 (rd l1 (ji5))] (by rfl) rfl rfl (by (try simp only [List.map_toArray, List.map_cons, List.map_nil]); first | done | (simp only [hji5]; rfl) | rfl | (simp only [List.length_drop, List.length_take]; rfl)) ?_
         with_reducible refine (impl_AnswersTo.calls kj7 a0_0 _ _ l0_1 _ _ t506 (rd l1 (ji5)) t509 _ ?side1 ?side2 ?side3 ?side4 A20.out).mono ?_
         (case side1 => exact cb_ HR0_1.out)
         (case side2 => exact HC0_1.out)
         (case side3 => repeat (first | exact (Zp HO508.out).2.2 | (with_reducible refine ZB ?_ _) | (with_reducible refine ZA ?_ _) | (with_reducible refine ZG ?_)))
         (case side4 => exact (Zp HO508.out).2.1)
         rintro e w30 ⟨v510, rfl, ho0, hb⟩
         refine ⟨_, rfl, ?_⟩
         have HO511 := Aside0.mk (ZI (Kd.R_new' ho0 (Kd.R_lt (rR_ HO508.out))) (Zl hB_))
         replace HO508 := Aside0.mk (Kd.R_elder' (rR_ HO508.out) (ZS ho0) hb)
         replace BK500 := Aside0.mk (Zc (g := gb500) (o := .cells #[.int .i64 a0_0, .slice A0_1 l0_1.length c0_1] 27 (0, 0)) (bk_ BK500.out) hb)
         replace HB := Aside0.mk (Ze hB_ hb)
         (try clear hb)
         (try clear hb2)
         (try clear hk)
         (try clear hi)
         (try clear ho0)
         obtain ⟨Ao31, co31, eo31⟩ := ZP HO511.out
         (first | subst eo31 | (injection eo31 with f1_ f2_ f3_; have f4_ := f1_.symm; have f5_ := f3_.symm; clear f1_ f2_ f3_; subst f4_; subst f5_))
         refine hK.out _ _ ⟨(Za BK500.out 0).trans rfl, (Za BK500.out 1).trans rfl⟩ (fun hHeld => ?_)
         clear hK K
         refine no_ 38 ?_
         refine pu_ 10 39 #[Y,Y,Y,Y,Y,Y,Y,Y,Y,Y,Y,O,O,O] ?_
         refine pu_ 11 40 #[Y,Y,Y,Y,Y,Y,Y,Y,Y,Y,Y,Y,O,O] ?_
         refine pu_ 12 41 #[Y,Y,Y,Y,Y,Y,Y,Y,Y,Y,Y,Y,Y,O] ?_
         refine pu_ 13 28 #[Y,Y,Y,Y,Y,Y,Y,Y,Y,Y,Y,Y,Y,Y] ?_
         refine done_ (done_of HT_.out (by kernel_rfl)) ?_
         try go_wp2
         go_ret
         exact ⟨by first | rfl | (simp [errW_none, errW_some] <;> rfl) | (simp only [← hji5]; first | rfl | (simp [errW_none, errW_some] <;> rfl)) | (simp [*, errW_none, errW_some] <;> rfl), hB_⟩
       ·rw [if_neg c18] at H
        have c18b0 : (((l1.length : Int) % 2) == 0) = false := beq_eq_false_iff_ne.mpr c18
        have c18z : (Int.tmod (l1.length : Int) 2 == 0) = false := by (first | (rw [Int.tmod_eq_emod_of_nonneg (by omega)]; exact c18b0) | (rw [Int.tmod_eq_emod (by omega)]; exact c18b0) | (rw [Int.tmod_eq_emod]; simpa using c18b0))
        have c18b1 : (((l1.length : Int) % 2) != 0) = true := bne_iff_ne.mpr c18
        obtain rfl := Option.some.inj H
        try go_wp2
        replace BK500 := Aside0.mk (Zd BK500.out)
        replace HB := Aside0.mk (Zi HB.out)
        refine start_ (n := 14) (S := fun w' => True) (ds := []) #[O,O,O,O,O,O,O,O,O,O,O,O,O,O] (by kernel_rfl) rfl rfl trivial (fun hHeld => ?_); refine with_tabW impl_WinnerOf.tab6 impl_WinnerOf.bits6 (fun HT_ HW_ => ?_)
        generalize wc.drew = w32 at BK500 HB hHeld ⊢
        refine pu_ 0 29 #[Y,O,O,O,O,O,O,O,O,O,O,O,O,O] ?_
        refine pu_ 1 30 #[Y,Y,O,O,O,O,O,O,O,O,O,O,O,O] ?_
        refine pu_ 2 31 #[Y,Y,Y,O,O,O,O,O,O,O,O,O,O,O] ?_
        refine pu_ 3 32 #[Y,Y,Y,Y,O,O,O,O,O,O,O,O,O,O] ?_
        refine pu_ 4 33 #[Y,Y,Y,Y,Y,O,O,O,O,O,O,O,O,O] ?_
        refine pn_ 5 34 #[Y,Y,Y,Y,Y,Y,O,O,O,O,O,O,O,O] ?_
        refine pn_ 6 35 #[Y,Y,Y,Y,Y,Y,Y,O,O,O,O,O,O,O] ?_
        refine pn_ 7 36 #[Y,Y,Y,Y,Y,Y,Y,Y,O,O,O,O,O,O] ?_
        refine pn_ 8 37 #[Y,Y,Y,Y,Y,Y,Y,Y,Y,O,O,O,O,O] ?_
        refine pn_ 9 38 #[Y,Y,Y,Y,Y,Y,Y,Y,Y,Y,O,O,O,O] ?_
        refine pn_ 10 39 #[Y,Y,Y,Y,Y,Y,Y,Y,Y,Y,Y,O,O,O] ?_
        refine pn_ 11 40 #[Y,Y,Y,Y,Y,Y,Y,Y,Y,Y,Y,Y,O,O] ?_
        refine pu_ 12 41 #[Y,Y,Y,Y,Y,Y,Y,Y,Y,Y,Y,Y,Y,O] ?_
        refine pu_ 13 28 #[Y,Y,Y,Y,Y,Y,Y,Y,Y,Y,Y,Y,Y,Y] ?_
        refine done_ (done_of HT_.out (by kernel_rfl)) ?_
        try go_wp2
        go_ret
        exact ⟨by first | rfl | (simp [errW_none, errW_some] <;> rfl) | (simp only [← hji5]; first | rfl | (simp [errW_none, errW_some] <;> rfl)) | (simp [*, errW_none, errW_some] <;> rfl), hB_⟩
   ·rw [if_neg c7] at H
    exact absurd H (by simp)
  ·rw [if_neg c6] at H
   exact absurd H (by simp)
 ·replace c4 := Bool.eq_false_iff.mpr c4
  subst c4
  have H1 : (some (⟨#[]⟩ : ByteArray)) = some r := by rw [if_neg (show ¬ (false = true) by decide)] at H; exact H
  clear H
  have H := H1
  clear H1
  obtain rfl := Option.some.inj H
  go_enter Try.func37, Try.ntmps37
  go_wp2_with (first | ((with_reducible refine ZD (N := 2) rfl ?_); (try (refine gate_guard (by rfl) ?_; dsimp only)); refine ZH ?hg (N := 2) ?hd (cs := #[.int .i64 a0_0, .slice A0_1 l0_1.length c0_1]) (t := 27) ?hr ?_; (case hd => rfl); (case hg => rfl); (case hr => first | (go_simp; done) | (go_simp; rfl)); intro gb500 hg w33 hbox hb; have BK500 := Aside0.mk (hbox); have GW500 := Aside0.mk ((hz_ hg : w.heap.size ≤ gb500)); have GE500 := Aside0.mk ((hz_ hg : w.heap.size ≤ gb500)); replace HB := Aside0.mk (Ze hB_ hb); clear hb hbox hg; have hcz34_0 : w33.cell? ⟨gb500, 0, none⟩ = some (.int .i64 a0_0) := (Za BK500.out 0).trans rfl; have hcz34_1 : w33.cell? ⟨gb500, 1, none⟩ = some (.slice A0_1 l0_1.length c0_1) := (Za BK500.out 1).trans rfl; have hfz34_0 := Zb BK500.out 0; have hfz34_1 := Zb BK500.out 1) | ((with_reducible refine Zj (f := 38) rfl ?_); refine ZE (some 8) rfl rfl Try.func38 (by kernel_rfl) rfl #[.agg #[.int .i64 a0_0, .slice A0_1 l0_1.length c0_1], .slice A1 l1.length c1] rfl ar_ ?_; (with_reducible refine (impl_IsLine.calls k a0_0 _ _ l0_1 _ _ l1 false _ ?side1 ?side2 ?side3 ?side4 A3.out).mono ?_); (case side1 => exact cb_ HR0_1.out); (case side2 => exact HC0_1.out); (case side3 => exact cb_ HR1.out); (case side4 => exact HC1.out); rintro e w35 ⟨rfl, hb⟩; refine ⟨_, rfl, ?_⟩; replace BK500 := Aside0.mk (Zc (g := gb500) (o := .cells #[.int .i64 a0_0, .slice A0_1 l0_1.length c0_1] 27 (0, 0)) (bk_ BK500.out) hb); replace HB := Aside0.mk (Ze hB_ hb); (try clear hb); (try clear hb2); (try clear hk); (try clear hi)))
  go_ret
  exact ⟨er_, hB_⟩

/-! ### impl_LongestGame: function 39 -/
def impl_LongestGame.f (k : Nat) (a0_0 : Int) (l0_1 : List (List Int)) : Option (Int) := (impl_IsGraph.f k a0_0 l0_1).bind fun t513 => (if t513 = true then (some (wrap64 (2 * a0_0))) else (some 0))
theorem impl_LongestGame.mono : ∀ a0 a1 k, LeO (impl_LongestGame.f k a0 a1) (impl_LongestGame.f (k + 1) a0 a1) := by
 intro a0 a1 k
 unfold impl_LongestGame.f
 repeat' first
   | (with_reducible exact impl_IsGraph.mono _ _ _)
   | (with_reducible exact ZJ _)
   | (with_reducible exact Zn _)
   | (with_reducible refine Zt ?_ ?_)
   | (with_reducible refine Zo ?_ (fun _ => ?_))
   | exact impl_IsGraph.mono _ _ _
   | exact Zn _
   | refine Zt ?_ ?_
   | refine Zo ?_ (fun _ => ?_)
set_option maxHeartbeats 8000000 in
set_option maxRecDepth 100000 in
theorem impl_LongestGame.calls (k : Nat) (a0_0 : Int) (A0_1 : Option Addr) (c0_1 : Nat) (l0_1 : List (List Int)) (r : Int) (w : World) (hr0_1 : Kd.C (Kd.slice 3 (Kd.int .i64)) w A0_1 l0_1.length l0_1) (hc0_1 : l0_1.length ≤ c0_1) (h : impl_LongestGame.f k a0_0 l0_1 = some r) :
  Calls Try.prog 39 #[.agg #[.int .i64 a0_0, .slice A0_1 l0_1.length c0_1]] w fun e w' => e = .returned (.int .i64 r) ∧ Below w.heap.size w w' := by
 have hu27 := Try.underlying27
 have HR0_1 := Aside0.mk hr0_1
 have HC0_1 := Aside0.mk hc0_1
 clear hr0_1 hc0_1
 have HB := Aside0.mk (Below.refl w.heap.size w)
 have H : ((impl_IsGraph.f k a0_0 l0_1).bind fun t513 => (if t513 = true then (some (wrap64 (2 * a0_0))) else (some 0))) = some r := h
 clear h
 replace H := Option.bind_eq_some_iff.mp H
 obtain ⟨t513, A20, H⟩ := H
 replace H : (if t513 = true then (some (wrap64 (2 * a0_0))) else (some 0)) = some r := H
 have A2 := Aside0.mk A20
 clear A20
 by_cases c3 : t513 = true
 ·subst c3
  have H1 : (some (wrap64 (2 * a0_0))) = some r := by rw [if_pos rfl] at H; exact H
  clear H
  have H := H1
  clear H1
  obtain rfl := Option.some.inj H
  go_enter Try.func39, Try.ntmps39
  go_wp2_with (first | ((with_reducible refine ZD (N := 1) rfl ?_); refine ZH ?hg (N := 1) ?hd (cs := #[.int .i64 a0_0, .slice A0_1 l0_1.length c0_1]) (t := 27) ?hr ?_; (case hd => rfl); (case hg => rfl); (case hr => first | (go_simp; done) | (go_simp; rfl)); intro gb512 hg w4 hbox hb; have BK512 := Aside0.mk (hbox); have GW512 := Aside0.mk ((hz_ hg : w.heap.size ≤ gb512)); have GE512 := Aside0.mk ((hz_ hg : w.heap.size ≤ gb512)); replace HB := Aside0.mk (Ze hB_ hb); clear hb hbox hg; have hcz5_0 : w4.cell? ⟨gb512, 0, none⟩ = some (.int .i64 a0_0) := (Za BK512.out 0).trans rfl; have hcz5_1 : w4.cell? ⟨gb512, 1, none⟩ = some (.slice A0_1 l0_1.length c0_1) := (Za BK512.out 1).trans rfl; have hfz5_0 := Zb BK512.out 0; have hfz5_1 := Zb BK512.out 1) | ((with_reducible refine Zj (f := 24) rfl ?_); refine ZE (some 4) rfl rfl Try.func24 (by kernel_rfl) rfl #[.agg #[.int .i64 a0_0, .slice A0_1 l0_1.length c0_1]] rfl ar_ ?_; (with_reducible refine (impl_IsGraph.calls k a0_0 _ _ l0_1 true _ ?side1 ?side2 A2.out).mono ?_); (case side1 => exact cb_ HR0_1.out); (case side2 => exact HC0_1.out); rintro e w6 ⟨rfl, hb⟩; refine ⟨_, rfl, ?_⟩; replace BK512 := Aside0.mk (Zc (g := gb512) (o := .cells #[.int .i64 a0_0, .slice A0_1 l0_1.length c0_1] 27 (0, 0)) (bk_ BK512.out) hb); replace HB := Aside0.mk (Ze hB_ hb); (try clear hb); (try clear hb2); (try clear hk); (try clear hi); have hcz7_0 : w6.cell? ⟨gb512, 0, none⟩ = some (.int .i64 a0_0) := (Za BK512.out 0).trans rfl; have hcz7_1 : w6.cell? ⟨gb512, 1, none⟩ = some (.slice A0_1 l0_1.length c0_1) := (Za BK512.out 1).trans rfl; have hfz7_0 := Zb BK512.out 0; have hfz7_1 := Zb BK512.out 1))
  go_ret
  exact ⟨er_, hB_⟩
 ·replace c3 := Bool.eq_false_iff.mpr c3
  subst c3
  have H1 : (some 0) = some r := by rw [if_neg (show ¬ (false = true) by decide)] at H; exact H
  clear H
  have H := H1
  clear H1
  obtain rfl := Option.some.inj H
  go_enter Try.func39, Try.ntmps39
  go_wp2_with (first | ((with_reducible refine ZD (N := 1) rfl ?_); refine ZH ?hg (N := 1) ?hd (cs := #[.int .i64 a0_0, .slice A0_1 l0_1.length c0_1]) (t := 27) ?hr ?_; (case hd => rfl); (case hg => rfl); (case hr => first | (go_simp; done) | (go_simp; rfl)); intro gb512 hg w8 hbox hb; have BK512 := Aside0.mk (hbox); have GW512 := Aside0.mk ((hz_ hg : w.heap.size ≤ gb512)); have GE512 := Aside0.mk ((hz_ hg : w.heap.size ≤ gb512)); replace HB := Aside0.mk (Ze hB_ hb); clear hb hbox hg; have hcz9_0 : w8.cell? ⟨gb512, 0, none⟩ = some (.int .i64 a0_0) := (Za BK512.out 0).trans rfl; have hcz9_1 : w8.cell? ⟨gb512, 1, none⟩ = some (.slice A0_1 l0_1.length c0_1) := (Za BK512.out 1).trans rfl; have hfz9_0 := Zb BK512.out 0; have hfz9_1 := Zb BK512.out 1) | ((with_reducible refine Zj (f := 24) rfl ?_); refine ZE (some 4) rfl rfl Try.func24 (by kernel_rfl) rfl #[.agg #[.int .i64 a0_0, .slice A0_1 l0_1.length c0_1]] rfl ar_ ?_; (with_reducible refine (impl_IsGraph.calls k a0_0 _ _ l0_1 false _ ?side1 ?side2 A2.out).mono ?_); (case side1 => exact cb_ HR0_1.out); (case side2 => exact HC0_1.out); rintro e w10 ⟨rfl, hb⟩; refine ⟨_, rfl, ?_⟩; replace BK512 := Aside0.mk (Zc (g := gb512) (o := .cells #[.int .i64 a0_0, .slice A0_1 l0_1.length c0_1] 27 (0, 0)) (bk_ BK512.out) hb); replace HB := Aside0.mk (Ze hB_ hb); (try clear hb); (try clear hb2); (try clear hk); (try clear hi)))
  go_ret
  exact ⟨er_, hB_⟩

end Go.Proofs.Ytdlobolnajcfnaa.PFnGames
