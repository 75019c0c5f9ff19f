-- Written by a program of this session (hooks of mine on the print): Lean checks it.
import Derived.Test.YtdlobolnajcfnaaPFnGamesx0
import Derived.Test.YtdlobolnajcfnaaPFnGamesx1
import Derived.Test.YtdlobolnajcfnaaPFnGamesx4
import Derived.Test.YtdlobolnajcfnaaPFnGamesx5
namespace Go.Proofs.Ytdlobolnajcfnaa.PFnGames
open Go.RowKit Go.Proofs.YtdlobolnajcfnaaW.PrintWords Go.Proofs.YtdlobolnajcfnaaW.PrintLast Go.Proofs.YtdlobolnajcfnaaW.PrintMore
attribute [local go_sem] max2_int min2_int max_two min_two max_three min_three max_four min_four   -- for this text's walks alone
set_option linter.unusedVariables false
set_option linter.unusedSimpArgs false

/-! ### impl_BestAnswer: function 16 -/
mutual
def impl_BestAnswer.l0 : Nat → List Int → Int → Int → List Int → Int → Int → Int → List (List Int) → Option (Int)
  | 0, _, _, _, _, _, _, _, _ => none
  | k + 1, x1, x2, x7, x12, x13, x14, x245000, x245001 => if x14 < x13 then (if 0 ≤ x14 then (if x14 < (x12.length : Int) then ((impl_isClaim.f x245000 x245001 (rd x12 x14)).bind fun t246 => (if t246 = true then (if 0 ≤ (rd x12 x14) then (impl_BestAnswer.l0 k x1 x2 (Go.bits .or .i64 x7 (shl .i64 1 (rd x12 x14))) x12 x13 (wrap64 (x14 + 1)) x245000 x245001) else (none)) else (impl_BestAnswer.l0 k x1 x2 x7 x12 x13 (wrap64 (x14 + 1)) x245000 x245001))) else (none)) else (none)) else ((impl_AnswersTo.f k x245000 x245001 x1 x2).bind fun t247 => (impl_BestAnswer.l1 k x7 t247 (t247.length : Int) 0 x245000 x245001))
def impl_BestAnswer.l1 : Nat → Int → List Int → Int → Int → Int → List (List Int) → Option (Int)
  | 0, _, _, _, _, _, _ => none
  | k + 1, x7, x29, x30, x31, x245000, x245001 => if x31 < x30 then (if 0 ≤ x31 then (if x31 < (x29.length : Int) then (if 0 ≤ (rd x29 x31) then ((impl_wins.f k x245000 x245001 (Go.bits .or .i64 x7 (shl .i64 1 (rd x29 x31))) (rd x29 x31)).bind fun t251 => (if t251 = true then (some (rd x29 x31)) else (impl_BestAnswer.l1 k x7 x29 x30 (wrap64 (x31 + 1)) x245000 x245001))) else (none)) else (none)) else (none)) else (some (-1))
end
def impl_BestAnswer.f (k : Nat) (a0_0 : Int) (l0_1 : List (List Int)) (l1 : List Int) (a2 : Int) : Option (Int) := impl_BestAnswer.l0 k l1 a2 0 l1 (l1.length : Int) 0 a0_0 l0_1
theorem impl_BestAnswer.mono_l : ∀ k, (∀ y0 y1 y2 y3 y4 y5 y6 y7, LeO (impl_BestAnswer.l0 k y0 y1 y2 y3 y4 y5 y6 y7) (impl_BestAnswer.l0 (k + 1) y0 y1 y2 y3 y4 y5 y6 y7)) ∧ (∀ y0 y1 y2 y3 y4 y5, LeO (impl_BestAnswer.l1 k y0 y1 y2 y3 y4 y5) (impl_BestAnswer.l1 (k + 1) y0 y1 y2 y3 y4 y5))
  | 0 => ⟨fun _ _ _ _ _ _ _ _ r h => by simp [impl_BestAnswer.l0] at h, fun _ _ _ _ _ _ r h => by simp [impl_BestAnswer.l1] at h⟩
  | k + 1 => by
    obtain ⟨ih0, ih1⟩ := impl_BestAnswer.mono_l k
    refine ⟨?_, ?_⟩
    · intro y0 y1 y2 y3 y4 y5 y6 y7
      unfold impl_BestAnswer.l0
      repeat' first
      | (with_reducible exact ih0 _ _ _ _ _ _ _ _)
      | (with_reducible exact ih1 _ _ _ _ _ _)
      | (with_reducible exact impl_AnswersTo.mono _ _ _ _ _)
      | (with_reducible exact impl_wins.mono _ _ _ _ _)
      | (with_reducible exact ZJ _)
      | (with_reducible exact Zn _)
      | (with_reducible refine Zt ?_ ?_)
      | (with_reducible refine Zo ?_ (fun _ => ?_))
      | exact ih0 _ _ _ _ _ _ _ _
      | exact ih1 _ _ _ _ _ _
      | exact impl_AnswersTo.mono _ _ _ _ _
      | exact impl_wins.mono _ _ _ _ _
      | exact Zn _
      | refine Zt ?_ ?_
      | refine Zo ?_ (fun _ => ?_)
    · intro y0 y1 y2 y3 y4 y5
      unfold impl_BestAnswer.l1
      repeat' first
      | (with_reducible exact ih0 _ _ _ _ _ _ _ _)
      | (with_reducible exact ih1 _ _ _ _ _ _)
      | (with_reducible exact impl_AnswersTo.mono _ _ _ _ _)
      | (with_reducible exact impl_wins.mono _ _ _ _ _)
      | (with_reducible exact ZJ _)
      | (with_reducible exact Zn _)
      | (with_reducible refine Zt ?_ ?_)
      | (with_reducible refine Zo ?_ (fun _ => ?_))
      | exact ih0 _ _ _ _ _ _ _ _
      | exact ih1 _ _ _ _ _ _
      | exact impl_AnswersTo.mono _ _ _ _ _
      | exact impl_wins.mono _ _ _ _ _
      | exact Zn _
      | refine Zt ?_ ?_
      | refine Zo ?_ (fun _ => ?_)
theorem impl_BestAnswer.mono : ∀ a0 a1 a2 a3 k, LeO (impl_BestAnswer.f k a0 a1 a2 a3) (impl_BestAnswer.f (k + 1) a0 a1 a2 a3) := by
  intro a0 a1 a2 a3 k
  obtain ⟨ih0, ih1⟩ := impl_BestAnswer.mono_l k
  unfold impl_BestAnswer.f
  repeat' first
      | (with_reducible exact ih0 _ _ _ _ _ _ _ _)
      | (with_reducible exact ih1 _ _ _ _ _ _)
      | (with_reducible exact impl_AnswersTo.mono _ _ _ _ _)
      | (with_reducible exact impl_wins.mono _ _ _ _ _)
      | (with_reducible exact ZJ _)
      | (with_reducible exact Zn _)
      | (with_reducible refine Zt ?_ ?_)
      | (with_reducible refine Zo ?_ (fun _ => ?_))
      | exact ih0 _ _ _ _ _ _ _ _
      | exact ih1 _ _ _ _ _ _
      | exact impl_AnswersTo.mono _ _ _ _ _
      | exact impl_wins.mono _ _ _ _ _
      | exact Zn _
      | refine Zt ?_ ?_
      | refine Zo ?_ (fun _ => ?_)
def impl_BestAnswer.T11 : Bool × List (List Nat × List Nat) := (true, [([], []), ([], []), ([], []), ([2], [2]), ([1, 3], [1, 3]), ([], []), ([], []), ([0, 4, 5, 6], [0, 4, 5, 6])])
def impl_BestAnswer.B11 : List Nat := [0, 0, 0, 4, 14, 0, 0, 127]
theorem impl_BestAnswer.tab11 : rtab .any (opsOf Try.f16 11) = impl_BestAnswer.T11 := by kernel_rfl
theorem impl_BestAnswer.bits11 : waitsOk impl_BestAnswer.T11.2 impl_BestAnswer.B11 = true := by kernel_rfl
set_option maxHeartbeats 8000000 in
set_option maxRecDepth 100000 in
theorem impl_BestAnswer.calls (k : Nat) (a0_0 : Int) (A0_1 : Option Addr) (c0_1 : Nat) (l0_1 : List (List Int)) (A1 : Option Addr) (c1 : Nat) (l1 : List Int) (a2 : Int) (r : Int) (w : World) (hr0_1 : Kd.C (Kd.slice 3 (Kd.int .i64)) w A0_1 l0_1.length l0_1) (hc0_1 : l0_1.length ≤ c0_1) (hr1 : Kd.C (Kd.int .i64) w A1 l1.length l1) (hc1 : l1.length ≤ c1) (h : impl_BestAnswer.f k a0_0 l0_1 l1 a2 = some r) :
    Calls Try.prog 16 #[.agg #[.int .i64 a0_0, .slice A0_1 l0_1.length c0_1], .slice A1 l1.length c1, .int .i64 a2] w fun e w' => e = .returned (.int .i64 r) ∧ Below w.heap.size w w' := by
  have hu27 := Try.underlying27
  have HR0_1 := Aside0.mk hr0_1
  have HC0_1 := Aside0.mk hc0_1
  clear hr0_1 hc0_1
  have HR1 := Aside0.mk hr1
  have HC1 := Aside0.mk hc1
  clear hr1 hc1
  have HB := Aside0.mk (Below.refl w.heap.size w)
  have H : (impl_BestAnswer.l0 k l1 a2 0 l1 (l1.length : Int) 0 a0_0 l0_1) = some r := h
  clear h
  have H' := Aside0.mk H
  clear H
  go_enter Try.func16, Try.ntmps16
  go_wp2_with (first | ((with_reducible refine ZD (N := 3) rfl ?_); refine ZH ?hg (N := 3) ?hd (cs := #[.int .i64 a0_0, .slice A0_1 l0_1.length c0_1]) (t := 27) ?hr ?_; (case hd => rfl); (case hg => rfl); (case hr => first | (go_simp; done) | (go_simp; rfl)); intro gb244 hg w4 hbox hb; have BK244 := Aside0.mk (hbox); have GW244 := Aside0.mk ((hz_ hg : w.heap.size ≤ gb244)); have GE244 := Aside0.mk ((hz_ hg : w.heap.size ≤ gb244)); replace HB := Aside0.mk (Ze hB_ hb); clear hb hbox hg))
  go_loopg [7, 14] k (fun kq v7 v14 w' => ∃ (x7_1 : Int) (x14_1 : Int), v7 = .int .i64 x7_1 ∧ v14 = .int .i64 x14_1 ∧ Aside0 (impl_BestAnswer.l0 kq l1 a2 x7_1 l1 (l1.length : Int) x14_1 a0_0 l0_1 = some r) ∧ Aside0 (kq ≤ k) ∧ Aside0 (w'.heap[gb244]? = some (.cells #[.int .i64 a0_0, (.slice A0_1 l0_1.length c0_1)] 27 (0, 0))) ∧ Aside0 (Below w.heap.size w w'))
  case atStart => exact ⟨(0), (0), sm_, sm_, H', ⟨Nat.le_refl _⟩, ⟨bk_ BK244.out⟩, ⟨hB_⟩⟩
  case round =>
    clear H'
    try clear c1
    try clear p2
    obtain ⟨x7_1, x14_1, rfl, rfl, HA, HK1, BK244, HB⟩ := hrel
    cases gk with
    | zero => exact absurd HA.out (by simp [impl_BestAnswer.l0])
    | succ k1 =>
      have H := HA.out
      clear HA
      simp only [impl_BestAnswer.l0] at H
      by_cases c5 : x14_1 < (l1.length : Int)
      · rw [if_pos c5] at H
        have c5b0 : decide (x14_1 < (l1.length : Int)) = true := decide_eq_true c5
        clear c5
        by_cases c6 : 0 ≤ x14_1
        · rw [if_pos c6] at H
          have c6b0 : decide (0 ≤ x14_1) = true := decide_eq_true c6
          clear c6
          by_cases c7 : x14_1 < (l1.length : Int)
          · rw [if_pos c7] at H
            have c7b0 : decide (x14_1 < (l1.length : Int)) = true := decide_eq_true c7
            clear c7
            replace H := Option.bind_eq_some_iff.mp H
            obtain ⟨t246, A80, H⟩ := H
            replace H : (if t246 = true then (if 0 ≤ (rd l1 x14_1) then (impl_BestAnswer.l0 k1 l1 a2 (Go.bits .or .i64 x7_1 (shl .i64 1 (rd l1 x14_1))) l1 (l1.length : Int) (wrap64 (x14_1 + 1)) a0_0 l0_1) else (none)) else (impl_BestAnswer.l0 k1 l1 a2 x7_1 l1 (l1.length : Int) (wrap64 (x14_1 + 1)) a0_0 l0_1)) = some r := H
            have A8 := Aside0.mk A80
            clear A80
            by_cases c9 : t246 = true
            · subst c9
              have H1 : (if 0 ≤ (rd l1 x14_1) then (impl_BestAnswer.l0 k1 l1 a2 (Go.bits .or .i64 x7_1 (shl .i64 1 (rd l1 x14_1))) l1 (l1.length : Int) (wrap64 (x14_1 + 1)) a0_0 l0_1) else (none)) = some r := by rw [if_pos rfl] at H; exact H
              clear H
              have H := H1
              clear H1
              by_cases c10 : 0 ≤ (rd l1 x14_1)
              · rw [if_pos c10] at H
                have c10b0 := eq_true c10
                have c10b1 : decide (0 ≤ (rd l1 x14_1)) = true := decide_eq_true c10
                clear c10
                obtain ⟨ji11, hji11⟩ : ∃ j_ : Int, (shl .i64 1 (rd l1 x14_1)) = j_ := ⟨_, rfl⟩
                replace H : (impl_BestAnswer.l0 k1 l1 a2 (Go.bits .or .i64 x7_1 (ji11)) l1 (l1.length : Int) (wrap64 (x14_1 + 1)) a0_0 l0_1) = some r := by first | (rw [hji11] at H; exact H) | (simp only [hji11] at H ⊢; exact H)
                (try rw [hji11] at A8)
                have hji11_ : (IntKind.i64.wrap (1 * 2 ^ min (rd l1 x14_1).toNat 64)) = ji11 := hji11
                have hji11z : (rd l1 x14_1) ≤ 64 → (IntKind.i64.wrap (1 * 2 ^ (rd l1 x14_1).toNat)) = ji11 := shl_small hji11
                have hji11u : (IntKind.i64.wrap (2 ^ min (rd l1 x14_1).toNat 64)) = ji11 := by have h_ := hji11_; rw [Int.one_mul] at h_; exact h_
                have hji11v : (rd l1 x14_1) ≤ 64 → (IntKind.i64.wrap (2 ^ (rd l1 x14_1).toNat)) = ji11 := fun hle_ => by have h_ := hji11z hle_; rw [Int.one_mul] at h_; exact h_
                have hji11y : (wrap64 (1 * 2 ^ min (rd l1 x14_1).toNat 64)) = ji11 := (i64_w _).symm.trans hji11_
                have hji11x : (rd l1 x14_1) ≤ 64 → (wrap64 (1 * 2 ^ (rd l1 x14_1).toNat)) = ji11 := fun h_ => (i64_w _).symm.trans (hji11z h_)
                have H' := Aside0.mk H
                clear H
                have p245 : 0 ≤ (x14_1 : Int) := of_decide_eq_true as_
                have q245 : x14_1 < (l1.length : Int) := of_decide_eq_true as_
                obtain ⟨ad245, e245, hx245_0⟩ := Zv HR1.out x14_1 p245 q245
                cases e245
                replace hx245_0 := (HB.out.cell (World.block_lt_of_cell? w _ hx245_0)).trans hx245_0
                replace p245 := eq_true p245
                replace q245 := eq_true q245
                have hcz12_0 : wr.cell? ⟨gb244, 0, none⟩ = some (.int .i64 a0_0) := (Za BK244.out 0).trans rfl
                have hcz12_1 : wr.cell? ⟨gb244, 1, none⟩ = some (.slice A0_1 l0_1.length c0_1) := (Za BK244.out 1).trans rfl
                have hfz12_0 := Zb BK244.out 0
                have hfz12_1 := Zb BK244.out 1
                go_wp2_with (first | ((with_reducible refine Zj (f := 61) rfl ?_); refine ZE (some 20) rfl rfl Try.func61 (by kernel_rfl) rfl #[.agg #[.int .i64 a0_0, .slice A0_1 l0_1.length c0_1], .int .i64 (rd l1 x14_1)] rfl ar_ ?_; (with_reducible refine (impl_isClaim.calls a0_0 _ _ l0_1 (rd l1 x14_1) true _ ?side1 ?side2 A8.out).mono ?_); (case side1 => exact cb_ HR0_1.out); (case side2 => exact HC0_1.out); rintro e w13 ⟨rfl, hb⟩; refine ⟨_, rfl, ?_⟩; replace BK244 := Aside0.mk (Zc (g := gb244) (o := .cells #[.int .i64 a0_0, .slice A0_1 l0_1.length c0_1] 27 (0, 0)) (bk_ BK244.out) hb); replace HB := Aside0.mk (Ze hB_ hb); (try clear hb); (try clear hb2); (try clear hk); (try clear hi)))
                go_roundg k1
                case measure => have := HK1.out; omega
                case rel => exact ⟨(Go.bits .or .i64 x7_1 (ji11)), (wrap64 (x14_1 + 1)), (by first | rfl | (simp; done) | (simp only [← hji11] <;> (first | rfl | simp)) | (simp [*]; done)), sm_, H', ⟨by have := HK1.out; omega⟩, ⟨bk_ BK244.out⟩, ⟨hB_⟩⟩
              · rw [if_neg c10] at H
                exact absurd H (by simp)
            · replace c9 := Bool.eq_false_iff.mpr c9
              subst c9
              have H1 : (impl_BestAnswer.l0 k1 l1 a2 x7_1 l1 (l1.length : Int) (wrap64 (x14_1 + 1)) a0_0 l0_1) = some r := by rw [if_neg (show ¬ (false = true) by decide)] at H; exact H
              clear H
              have H := H1
              clear H1
              have H' := Aside0.mk H
              clear H
              have p245 : 0 ≤ (x14_1 : Int) := of_decide_eq_true as_
              have q245 : x14_1 < (l1.length : Int) := of_decide_eq_true as_
              obtain ⟨ad245, e245, hx245_0⟩ := Zv HR1.out x14_1 p245 q245
              cases e245
              replace hx245_0 := (HB.out.cell (World.block_lt_of_cell? w _ hx245_0)).trans hx245_0
              replace p245 := eq_true p245
              replace q245 := eq_true q245
              have hcz14_0 : wr.cell? ⟨gb244, 0, none⟩ = some (.int .i64 a0_0) := (Za BK244.out 0).trans rfl
              have hcz14_1 : wr.cell? ⟨gb244, 1, none⟩ = some (.slice A0_1 l0_1.length c0_1) := (Za BK244.out 1).trans rfl
              have hfz14_0 := Zb BK244.out 0
              have hfz14_1 := Zb BK244.out 1
              go_wp2_with (first | ((with_reducible refine Zj (f := 61) rfl ?_); refine ZE (some 20) rfl rfl Try.func61 (by kernel_rfl) rfl #[.agg #[.int .i64 a0_0, .slice A0_1 l0_1.length c0_1], .int .i64 (rd l1 x14_1)] rfl ar_ ?_; (with_reducible refine (impl_isClaim.calls a0_0 _ _ l0_1 (rd l1 x14_1) false _ ?side1 ?side2 A8.out).mono ?_); (case side1 => exact cb_ HR0_1.out); (case side2 => exact HC0_1.out); rintro e w15 ⟨rfl, hb⟩; refine ⟨_, rfl, ?_⟩; replace BK244 := Aside0.mk (Zc (g := gb244) (o := .cells #[.int .i64 a0_0, .slice A0_1 l0_1.length c0_1] 27 (0, 0)) (bk_ BK244.out) hb); replace HB := Aside0.mk (Ze hB_ hb); (try clear hb); (try clear hb2); (try clear hk); (try clear hi)))
              go_roundg k1
              case measure => have := HK1.out; omega
              case rel => exact ⟨(x7_1), (wrap64 (x14_1 + 1)), sm_, sm_, H', ⟨by have := HK1.out; omega⟩, ⟨bk_ BK244.out⟩, ⟨hB_⟩⟩
          · rw [if_neg c7] at H
            exact absurd H (by simp)
        · rw [if_neg c6] at H
          exact absurd H (by simp)
      · rw [if_neg c5] at H
        have c5b0 : decide (x14_1 < (l1.length : Int)) = false := decide_eq_false c5
        clear c5
        replace H := Option.bind_eq_some_iff.mp H
        obtain ⟨t247, A160, H⟩ := H
        replace H : (impl_BestAnswer.l1 k1 x7_1 t247 (t247.length : Int) 0 a0_0 l0_1) = some r := H
        have A16 := Aside0.mk A160
        clear A160
        have H' := Aside0.mk H
        clear H
        have hcz17_0 : wr.cell? ⟨gb244, 0, none⟩ = some (.int .i64 a0_0) := (Za BK244.out 0).trans rfl
        have hcz17_1 : wr.cell? ⟨gb244, 1, none⟩ = some (.slice A0_1 l0_1.length c0_1) := (Za BK244.out 1).trans rfl
        have hfz17_0 := Zb BK244.out 0
        have hfz17_1 := Zb BK244.out 1
        go_wp2_with (first | ((with_reducible refine Zj (f := 35) rfl ?_); refine ZE (some 29) rfl rfl Try.func35 (by kernel_rfl) rfl #[.agg #[.int .i64 a0_0, .slice A0_1 l0_1.length c0_1], .slice A1 l1.length c1, .int .i64 a2] rfl ar_ ?_; (with_reducible refine (impl_AnswersTo.calls k1 a0_0 _ _ l0_1 _ _ l1 a2 t247 _ ?side1 ?side2 ?side3 ?side4 A16.out).mono ?_); (case side1 => exact cb_ HR0_1.out); (case side2 => exact HC0_1.out); (case side3 => exact cb_ HR1.out); (case side4 => exact HC1.out); rintro e w18 ⟨v248, rfl, ho0, hb⟩; refine ⟨_, rfl, ?_⟩; have HO249 := Aside0.mk (ZI ho0 (Zl hB_)); replace BK244 := Aside0.mk (Zc (g := gb244) (o := .cells #[.int .i64 a0_0, .slice A0_1 l0_1.length c0_1] 27 (0, 0)) (bk_ BK244.out) hb); replace HB := Aside0.mk (Ze hB_ hb); (try clear hb); (try clear hb2); (try clear hk); (try clear hi); (try clear ho0); obtain ⟨Ao19, co19, eo19⟩ := ZP HO249.out; subst eo19))
        go_loopg [31] k1 (fun kq v31 w' => ∃ (x31_2 : Int), v31 = .int .i64 x31_2 ∧ Aside0 (impl_BestAnswer.l1 kq x7_1 t247 (t247.length : Int) x31_2 a0_0 l0_1 = some r) ∧ Aside0 (kq ≤ k1) ∧ Aside0 (Kd.R (Kd.int .i64) 3 w' w.heap.size (fun _ => True) (.slice Ao19 t247.length co19) t247) ∧ Aside0 (w'.heap[gb244]? = some (.cells #[.int .i64 a0_0, (.slice A0_1 l0_1.length c0_1)] 27 (0, 0))) ∧ Aside0 (Below w.heap.size w w'))
        case atStart => exact ⟨(0), sm_, H', ⟨Nat.le_refl _⟩, ⟨rR_ HO249.out⟩, ⟨bk_ BK244.out⟩, ⟨hB_⟩⟩
        case round =>
          clear H'
          try clear c1
          try clear p2
          try clear q2
          try clear hx2
          try clear c3
          try clear c5
          try clear c5b0
          try clear c6
          try clear c6b0
          try clear p6
          try clear c7
          try clear c7b0
          try clear c9
          try clear c10
          try clear c10b0
          try clear c10b1
          try clear c16
          try clear hcz12_0
          try clear hcz12_1
          try clear hcz14_0
          try clear hcz14_1
          try clear hcz17_0
          try clear hcz17_1
          try clear hfz12_0
          try clear hfz12_1
          try clear hfz14_0
          try clear hfz14_1
          try clear hfz17_0
          try clear hfz17_1
          try clear hx245_0
          try clear p2
          try clear p245
          try clear q245
          obtain ⟨x31_2, rfl, HA, HK2, HO_29, BK244, HB⟩ := hrel
          cases gk with
          | zero => exact absurd HA.out (by simp [impl_BestAnswer.l1])
          | succ k2 =>
            have H := HA.out
            clear HA
            simp only [impl_BestAnswer.l1] at H
            by_cases c20 : x31_2 < (t247.length : Int)
            · rw [if_pos c20] at H
              have c20b0 : decide (x31_2 < (t247.length : Int)) = true := decide_eq_true c20
              clear c20
              by_cases c21 : 0 ≤ x31_2
              · rw [if_pos c21] at H
                have c21b0 : decide (0 ≤ x31_2) = true := decide_eq_true c21
                clear c21
                by_cases c22 : x31_2 < (t247.length : Int)
                · rw [if_pos c22] at H
                  have c22b0 : decide (x31_2 < (t247.length : Int)) = true := decide_eq_true c22
                  clear c22
                  by_cases c23 : 0 ≤ (rd t247 x31_2)
                  · rw [if_pos c23] at H
                    have c23b0 := eq_true c23
                    have c23b1 : decide (0 ≤ (rd t247 x31_2)) = true := decide_eq_true c23
                    clear c23
                    obtain ⟨ji24, hji24⟩ : ∃ j_ : Int, (shl .i64 1 (rd t247 x31_2)) = j_ := ⟨_, rfl⟩
                    replace H : ((impl_wins.f k2 a0_0 l0_1 (Go.bits .or .i64 x7_1 (ji24)) (rd t247 x31_2)).bind fun t251 => (if t251 = true then (some (rd t247 x31_2)) else (impl_BestAnswer.l1 k2 x7_1 t247 (t247.length : Int) (wrap64 (x31_2 + 1)) a0_0 l0_1))) = some r := by first | (rw [hji24] at H; exact H) | (simp only [hji24] at H ⊢; exact H)
                    have hji24_ : (IntKind.i64.wrap (1 * 2 ^ min (rd t247 x31_2).toNat 64)) = ji24 := hji24
                    have hji24z : (rd t247 x31_2) ≤ 64 → (IntKind.i64.wrap (1 * 2 ^ (rd t247 x31_2).toNat)) = ji24 := shl_small hji24
                    have hji24u : (IntKind.i64.wrap (2 ^ min (rd t247 x31_2).toNat 64)) = ji24 := by have h_ := hji24_; rw [Int.one_mul] at h_; exact h_
                    have hji24v : (rd t247 x31_2) ≤ 64 → (IntKind.i64.wrap (2 ^ (rd t247 x31_2).toNat)) = ji24 := fun hle_ => by have h_ := hji24z hle_; rw [Int.one_mul] at h_; exact h_
                    have hji24y : (wrap64 (1 * 2 ^ min (rd t247 x31_2).toNat 64)) = ji24 := (i64_w _).symm.trans hji24_
                    have hji24x : (rd t247 x31_2) ≤ 64 → (wrap64 (1 * 2 ^ (rd t247 x31_2).toNat)) = ji24 := fun h_ => (i64_w _).symm.trans (hji24z h_)
                    replace H := Option.bind_eq_some_iff.mp H
                    obtain ⟨t251, A250, H⟩ := H
                    replace H : (if t251 = true then (some (rd t247 x31_2)) else (impl_BestAnswer.l1 k2 x7_1 t247 (t247.length : Int) (wrap64 (x31_2 + 1)) a0_0 l0_1)) = some r := H
                    have A25 := Aside0.mk A250
                    clear A250
                    by_cases c26 : t251 = true
                    · subst c26
                      have H1 : (some (rd t247 x31_2)) = some r := by rw [if_pos rfl] at H; exact H
                      clear H
                      have H := H1
                      clear H1
                      obtain rfl := Option.some.inj H
                      have p250 : 0 ≤ (x31_2 : Int) := of_decide_eq_true as_
                      have q250 : x31_2 < (t247.length : Int) := of_decide_eq_true as_
                      obtain ⟨ad250, e250, hx250_0⟩ := Zv (Zp HO_29.out).2.2 x31_2 p250 q250
                      cases e250
                      replace p250 := eq_true p250
                      replace q250 := eq_true q250
                      try go_wp2
                      replace HO_29 := Aside0.mk (ZR HO_29.out)
                      replace BK244 := Aside0.mk (Zd BK244.out)
                      replace HB := Aside0.mk (Zi HB.out)
                      refine start_ (n := 8) (S := fun w' => w'.cell? ⟨gb244, 0, none⟩ = some (.int .i64 a0_0) ∧ w'.cell? ⟨gb244, 1, none⟩ = some (.slice A0_1 l0_1.length c0_1)) (ds := []) #[O,O,O,O,O,O,O,O] (by kernel_rfl) rfl rfl ⟨(Za BK244.out 0).trans rfl, (Za BK244.out 1).trans rfl⟩ (fun hHeld => ?_); refine with_tabW impl_BestAnswer.tab11 impl_BestAnswer.bits11 (fun HT_ HW_ => ?_)
                      generalize wr.drew = w27 at HO_29 BK244 HB hHeld ⊢
                      refine pu_ 1 36 #[O,Y,O,O,O,O,O,O] ?_
                      refine pu_ 2 37 #[O,Y,Y,O,O,O,O,O] ?_
                      refine pu_ 3 38 #[O,Y,Y,Y,O,O,O,O] ?_
                      refine pu_ 4 39 #[O,Y,Y,Y,Y,O,O,O] ?_
                      refine pu_ 5 40 #[O,Y,Y,Y,Y,Y,O,O] ?_
                      refine tk2_ 0 35 #[Y,Y,Y,Y,Y,Y,O,O] hHeld ?_
                      refine on_ 6 41 #[Y,Y,Y,Y,Y,Y,Y,O] (fun K hK => ?_)
                      refine km_make (good := winsG a0_0 l0_1) (by rfl) rfl ?_
                      intro B wM hgB hmB hbB
                      have HBM := Aside0.mk (show w.heap.size ≤ B by rw [hgB]; exact Zl HB.out)
                      have HGB := Aside0.mk (Nat.le_of_eq hgB.symm)
                      have HMB := Aside0.mk hmB
                      have HWM := Aside0.mk hbB
                      clear hgB hmB hbB
                      refine hK.out _ _ ⟨(Za (Zc (g := gb244) (o := .cells #[.int .i64 a0_0, .slice A0_1 l0_1.length c0_1] 27 (0, 0)) BK244.out HWM.out) 0).trans rfl, (Za (Zc (g := gb244) (o := .cells #[.int .i64 a0_0, .slice A0_1 l0_1.length c0_1] 27 (0, 0)) BK244.out HWM.out) 1).trans rfl⟩ (fun hHeld => ?_)
                      clear hK K
                      refine no_ 41 ?_
                      refine on_ 7 42 #[Y,Y,Y,Y,Y,Y,Y,Y] (fun K hK => ?_)
                      refine goes_ Try.func62 (by kernel_rfl) rfl #[.agg #[.int .i64 a0_0, .slice A0_1 l0_1.length c0_1], .int .i64 (Go.bits .or .i64 x7_1 (ji24)), .int .i64 (rd t247 x31_2), .map (some B)] (by rfl) rfl rfl (by (try simp only [List.map_toArray, List.map_cons, List.map_nil]); first | done | (simp only [hji24]; rfl) | rfl | (simp only [List.length_drop, List.length_take]; rfl)) ?_
                      with_reducible refine (impl_wins.calls k2 a0_0 _ _ l0_1 (Go.bits .or .i64 x7_1 (ji24)) (rd t247 x31_2) B true w _ ?side1 ?side2 ?side3 ?side4 ?side5 A25.out).mono ?_
                      (case side1 => exact Ze HB.out HWM.out)
                      (case side2 => exact HBM.out)
                      (case side3 => exact HMB.out)
                      (case side4 => exact HR0_1.out)
                      (case side5 => exact HC0_1.out)
                      rintro e w28 ⟨rfl, hb0_, hmr_, hkr_⟩
                      have hb : Below w27.heap.size w27 w28 := km_through HB.out hb0_ HWM.out hkr_ HGB.out
                      clear hb0_ hmr_ hkr_ HWM HMB HGB HBM
                      refine ⟨_, rfl, ?_⟩
                      replace HO_29 := Aside0.mk (ZN (rR_ HO_29.out) hb)
                      replace BK244 := Aside0.mk (Zc (g := gb244) (o := .cells #[.int .i64 a0_0, .slice A0_1 l0_1.length c0_1] 27 (0, 0)) (bk_ BK244.out) hb)
                      replace HB := Aside0.mk (Ze hB_ hb)
                      (try clear hb)
                      (try clear hb2)
                      (try clear hk)
                      (try clear hi)
                      refine hK.out _ _ ⟨(Za BK244.out 0).trans rfl, (Za BK244.out 1).trans rfl⟩ (fun hHeld => ?_)
                      clear hK K
                      refine no_ 42 ?_
                      refine done_ (done_of HT_.out (by kernel_rfl)) ?_
                      try go_wp2
                      go_ret
                      exact ⟨by first | rfl | (simp [errW_none, errW_some] <;> rfl) | (simp only [← hji24]; first | rfl | (simp [errW_none, errW_some] <;> rfl)) | (simp [*, errW_none, errW_some] <;> rfl), hB_⟩
                    · replace c26 := Bool.eq_false_iff.mpr c26
                      subst c26
                      have H1 : (impl_BestAnswer.l1 k2 x7_1 t247 (t247.length : Int) (wrap64 (x31_2 + 1)) a0_0 l0_1) = some r := by rw [if_neg (show ¬ (false = true) by decide)] at H; exact H
                      clear H
                      have H := H1
                      clear H1
                      have H' := Aside0.mk H
                      clear H
                      have p250 : 0 ≤ (x31_2 : Int) := of_decide_eq_true as_
                      have q250 : x31_2 < (t247.length : Int) := of_decide_eq_true as_
                      obtain ⟨ad250, e250, hx250_0⟩ := Zv (Zp HO_29.out).2.2 x31_2 p250 q250
                      cases e250
                      replace p250 := eq_true p250
                      replace q250 := eq_true q250
                      try go_wp2
                      replace HO_29 := Aside0.mk (ZR HO_29.out)
                      replace BK244 := Aside0.mk (Zd BK244.out)
                      replace HB := Aside0.mk (Zi HB.out)
                      refine start_ (n := 8) (S := fun w' => w'.cell? ⟨gb244, 0, none⟩ = some (.int .i64 a0_0) ∧ w'.cell? ⟨gb244, 1, none⟩ = some (.slice A0_1 l0_1.length c0_1)) (ds := []) #[O,O,O,O,O,O,O,O] (by kernel_rfl) rfl rfl ⟨(Za BK244.out 0).trans rfl, (Za BK244.out 1).trans rfl⟩ (fun hHeld => ?_); refine with_tabW impl_BestAnswer.tab11 impl_BestAnswer.bits11 (fun HT_ HW_ => ?_)
                      generalize wr.drew = w29 at HO_29 BK244 HB hHeld ⊢
                      refine pu_ 1 36 #[O,Y,O,O,O,O,O,O] ?_
                      refine pu_ 2 37 #[O,Y,Y,O,O,O,O,O] ?_
                      refine pu_ 3 38 #[O,Y,Y,Y,O,O,O,O] ?_
                      refine pu_ 4 39 #[O,Y,Y,Y,Y,O,O,O] ?_
                      refine pu_ 5 40 #[O,Y,Y,Y,Y,Y,O,O] ?_
                      refine tk2_ 0 35 #[Y,Y,Y,Y,Y,Y,O,O] hHeld ?_
                      refine on_ 6 41 #[Y,Y,Y,Y,Y,Y,Y,O] (fun K hK => ?_)
                      refine km_make (good := winsG a0_0 l0_1) (by rfl) rfl ?_
                      intro B wM hgB hmB hbB
                      have HBM := Aside0.mk (show w.heap.size ≤ B by rw [hgB]; exact Zl HB.out)
                      have HGB := Aside0.mk (Nat.le_of_eq hgB.symm)
                      have HMB := Aside0.mk hmB
                      have HWM := Aside0.mk hbB
                      clear hgB hmB hbB
                      refine hK.out _ _ ⟨(Za (Zc (g := gb244) (o := .cells #[.int .i64 a0_0, .slice A0_1 l0_1.length c0_1] 27 (0, 0)) BK244.out HWM.out) 0).trans rfl, (Za (Zc (g := gb244) (o := .cells #[.int .i64 a0_0, .slice A0_1 l0_1.length c0_1] 27 (0, 0)) BK244.out HWM.out) 1).trans rfl⟩ (fun hHeld => ?_)
                      clear hK K
                      refine no_ 41 ?_
                      refine on_ 7 42 #[Y,Y,Y,Y,Y,Y,Y,Y] (fun K hK => ?_)
                      refine goes_ Try.func62 (by kernel_rfl) rfl #[.agg #[.int .i64 a0_0, .slice A0_1 l0_1.length c0_1], .int .i64 (Go.bits .or .i64 x7_1 (ji24)), .int .i64 (rd t247 x31_2), .map (some B)] (by rfl) rfl rfl (by (try simp only [List.map_toArray, List.map_cons, List.map_nil]); first | done | (simp only [hji24]; rfl) | rfl | (simp only [List.length_drop, List.length_take]; rfl)) ?_
                      with_reducible refine (impl_wins.calls k2 a0_0 _ _ l0_1 (Go.bits .or .i64 x7_1 (ji24)) (rd t247 x31_2) B false w _ ?side1 ?side2 ?side3 ?side4 ?side5 A25.out).mono ?_
                      (case side1 => exact Ze HB.out HWM.out)
                      (case side2 => exact HBM.out)
                      (case side3 => exact HMB.out)
                      (case side4 => exact HR0_1.out)
                      (case side5 => exact HC0_1.out)
                      rintro e w30 ⟨rfl, hb0_, hmr_, hkr_⟩
                      have hb : Below w29.heap.size w29 w30 := km_through HB.out hb0_ HWM.out hkr_ HGB.out
                      clear hb0_ hmr_ hkr_ HWM HMB HGB HBM
                      refine ⟨_, rfl, ?_⟩
                      replace HO_29 := Aside0.mk (ZN (rR_ HO_29.out) hb)
                      replace BK244 := Aside0.mk (Zc (g := gb244) (o := .cells #[.int .i64 a0_0, .slice A0_1 l0_1.length c0_1] 27 (0, 0)) (bk_ BK244.out) hb)
                      replace HB := Aside0.mk (Ze hB_ hb)
                      (try clear hb)
                      (try clear hb2)
                      (try clear hk)
                      (try clear hi)
                      refine hK.out _ _ ⟨(Za BK244.out 0).trans rfl, (Za BK244.out 1).trans rfl⟩ (fun hHeld => ?_)
                      clear hK K
                      refine no_ 42 ?_
                      refine done_ (done_of HT_.out (by kernel_rfl)) ?_
                      try go_wp2
                      go_roundg k2
                      case measure => have := HK1.out; have := HK2.out; omega
                      case rel => exact ⟨(wrap64 (x31_2 + 1)), sm_, H', ⟨by have := HK1.out; have := HK2.out; omega⟩, ⟨rR_ HO_29.out⟩, ⟨bk_ BK244.out⟩, ⟨hB_⟩⟩
                  · rw [if_neg c23] at H
                    exact absurd H (by simp)
                · rw [if_neg c22] at H
                  exact absurd H (by simp)
              · rw [if_neg c21] at H
                exact absurd H (by simp)
            · rw [if_neg c20] at H
              have c20b0 : decide (x31_2 < (t247.length : Int)) = false := decide_eq_false c20
              clear c20
              obtain rfl := Option.some.inj H
              go_wp2
              go_ret
              exact ⟨er_, hB_⟩

-- NOT PRINTED: function 4 (laws_FnExactBestAnswer)

/-! ### laws_big: function 18 -/
def laws_big.f (l0 : List Int) : Option (Bool) := some (decide ((l0.length : Int) > 1048576))
set_option maxHeartbeats 8000000 in
set_option maxRecDepth 100000 in
theorem laws_big.calls (A0 : Option Addr) (c0 : Nat) (l0 : List Int) (r : Bool) (w : World) (hr0 : Kd.C (Kd.int .u8) w A0 l0.length l0) (hc0 : l0.length ≤ c0) (h : laws_big.f l0 = some r) :
  Calls Try.prog 18 #[.slice A0 l0.length c0] w fun e w' => e = .returned (.bool r) ∧ Drawn0 w w' := by
 have HR0 := Aside0.mk hr0
 have HC0 := Aside0.mk hc0
 clear hr0 hc0
 have H : (some (decide ((l0.length : Int) > 1048576))) = some r := h
 clear h
 obtain rfl := Option.some.inj H
 go_enter Try.func18, Try.ntmps18
 go_wp2
 go_ret
 exact ⟨sm_, dr_⟩

/-! ### slices_Equal_int_int: function 76 -/
def slices_Equal_int_int.l0 : Nat → List Int → List Int → Int → Int → Option (Bool)
 | 0, _, _, _, _ => none
 | k + 1, x0, x1, x12, x13 => if x13 < x12 then (if 0 ≤ x13 then (if x13 < (x0.length : Int) then (if x13 < (x1.length : Int) then (if (rd x0 x13) = (rd x1 x13) then (slices_Equal_int_int.l0 k x0 x1 x12 (wrap64 (x13 + 1))) else (some false)) else (none)) else (none)) else (none)) else (some true)
def slices_Equal_int_int.f (k : Nat) (l0 : List Int) (l1 : List Int) : Option (Bool) := if (l0.length : Int) = (l1.length : Int) then (slices_Equal_int_int.l0 k l0 l1 (l0.length : Int) 0) else (some false)
theorem slices_Equal_int_int.mono_l : ∀ k, (∀ y0 y1 y2 y3, LeO (slices_Equal_int_int.l0 k y0 y1 y2 y3) (slices_Equal_int_int.l0 (k + 1) y0 y1 y2 y3))
 | 0 => fun _ _ _ _ r h => by simp [slices_Equal_int_int.l0] at h
 | k + 1 => by
  have ih0 := slices_Equal_int_int.mono_l k
  ·intro y0 y1 y2 y3
   unfold slices_Equal_int_int.l0
   repeat' first
   | (with_reducible exact ih0 _ _ _ _)
   | (with_reducible exact ZJ _)
   | (with_reducible exact Zn _)
   | (with_reducible refine Zt ?_ ?_)
   | (with_reducible refine Zo ?_ (fun _ => ?_))
   | exact ih0 _ _ _ _
   | exact Zn _
   | refine Zt ?_ ?_
   | refine Zo ?_ (fun _ => ?_)
theorem slices_Equal_int_int.mono : ∀ a0 a1 k, LeO (slices_Equal_int_int.f k a0 a1) (slices_Equal_int_int.f (k + 1) a0 a1) := by
 intro a0 a1 k
 have ih0 := slices_Equal_int_int.mono_l k
 unfold slices_Equal_int_int.f
 repeat' first
   | (with_reducible exact ih0 _ _ _ _)
   | (with_reducible exact ZJ _)
   | (with_reducible exact Zn _)
   | (with_reducible refine Zt ?_ ?_)
   | (with_reducible refine Zo ?_ (fun _ => ?_))
   | exact ih0 _ _ _ _
   | exact Zn _
   | refine Zt ?_ ?_
   | refine Zo ?_ (fun _ => ?_)
set_option maxHeartbeats 8000000 in
set_option maxRecDepth 100000 in
theorem slices_Equal_int_int.calls (k : Nat) (A0 : Option Addr) (c0 : Nat) (l0 : List Int) (A1 : Option Addr) (c1 : Nat) (l1 : List Int) (r : Bool) (w : World) (hr0 : Kd.C (Kd.int .i64) w A0 l0.length l0) (hc0 : l0.length ≤ c0) (hr1 : Kd.C (Kd.int .i64) w A1 l1.length l1) (hc1 : l1.length ≤ c1) (h : slices_Equal_int_int.f k l0 l1 = some r) :
  Calls Try.prog 76 #[.slice A0 l0.length c0, .slice A1 l1.length c1] w fun e w' => e = .returned (.bool r) ∧ Drawn0 w w' := by
 have HR0 := Aside0.mk hr0
 have HC0 := Aside0.mk hc0
 clear hr0 hc0
 have HR1 := Aside0.mk hr1
 have HC1 := Aside0.mk hc1
 clear hr1 hc1
 have H : (if (l0.length : Int) = (l1.length : Int) then (slices_Equal_int_int.l0 k l0 l1 (l0.length : Int) 0) else (some false)) = some r := h
 clear h
 by_cases c3 : (l0.length : Int) = (l1.length : Int)
 ·rw [if_pos c3] at H
  have c3b0 : ((l0.length : Int) == (l1.length : Int)) = true := beq_iff_eq.mpr c3
  have c3b1 : ((l0.length : Int) != (l1.length : Int)) = false := bne_eq_false_iff_eq.mpr c3
  have c3b2 : (l0.length == l1.length) = true := by first | simpa using c3 | (simp at c3 ⊢; omega)
  clear c3
  have H' := Aside0.mk H
  clear H
  go_enter Try.func76, Try.ntmps76
  go_wp2
  repeat (go_quiet (fail); try go_wp2)
  go_loopg [13] k (fun kq v13 w' => ∃ (x13_1 : Int), v13 = .int .i64 x13_1 ∧ Aside0 (slices_Equal_int_int.l0 kq l0 l1 (l0.length : Int) x13_1 = some r) ∧ Aside0 (kq ≤ k) ∧ Drawn0 w w')
  case atStart => exact ⟨(0), sm_, H', ⟨Nat.le_refl _⟩, dr_⟩
  case round =>
   clear H'
   try clear c1
   try clear p2
   try clear c3
   try clear c3b0
   try clear c3b1
   try clear c3b2
   obtain ⟨x13_1, rfl, HA, HK1, ⟨m1, rfl⟩⟩ := hrel
   cases gk with
   | zero => exact absurd HA.out (by simp [slices_Equal_int_int.l0])
   | succ k1 =>
    have H := HA.out
    clear HA
    simp only [slices_Equal_int_int.l0] at H
    by_cases c4 : x13_1 < (l0.length : Int)
    ·rw [if_pos c4] at H
     have c4b0 : decide (x13_1 < (l0.length : Int)) = true := decide_eq_true c4
     clear c4
     by_cases c5 : 0 ≤ x13_1
     ·rw [if_pos c5] at H
      have c5b0 : decide (0 ≤ x13_1) = true := decide_eq_true c5
      clear c5
      by_cases c6 : x13_1 < (l0.length : Int)
      ·rw [if_pos c6] at H
       have c6b0 : decide (x13_1 < (l0.length : Int)) = true := decide_eq_true c6
       clear c6
       by_cases c7 : x13_1 < (l1.length : Int)
       ·rw [if_pos c7] at H
        have c7b0 : decide (x13_1 < (l1.length : Int)) = true := decide_eq_true c7
        clear c7
        by_cases c8 : (rd l0 x13_1) = (rd l1 x13_1)
        ·rw [if_pos c8] at H
         have c8b0 : ((rd l0 x13_1) == (rd l1 x13_1)) = true := beq_iff_eq.mpr c8
         have c8b1 : ((rd l0 x13_1) != (rd l1 x13_1)) = false := bne_eq_false_iff_eq.mpr c8
         clear c8
         have H' := Aside0.mk H
         clear H
         have p142 : 0 ≤ (x13_1 : Int) := of_decide_eq_true as_
         have q142 : x13_1 < (l0.length : Int) := of_decide_eq_true as_
         obtain ⟨ad142, e142, hx142_0⟩ := Zv HR0.out x13_1 p142 q142
         cases e142
         replace p142 := eq_true p142
         replace q142 := eq_true q142
         have p143 : 0 ≤ (x13_1 : Int) := of_decide_eq_true as_
         have q143 : x13_1 < (l1.length : Int) := of_decide_eq_true as_
         obtain ⟨ad143, e143, hx143_0⟩ := Zv HR1.out x13_1 p143 q143
         cases e143
         replace p143 := eq_true p143
         replace q143 := eq_true q143
         go_wp2
         repeat (go_quiet (fail); try go_wp2)
         go_roundg k1
         case measure => have := HK1.out; omega
         case rel => exact ⟨(wrap64 (x13_1 + 1)), sm_, H', ⟨by have := HK1.out; omega⟩, dr_⟩
        ·rw [if_neg c8] at H
         have c8b0 : ((rd l0 x13_1) == (rd l1 x13_1)) = false := beq_eq_false_iff_ne.mpr c8
         have c8b1 : ((rd l0 x13_1) != (rd l1 x13_1)) = true := bne_iff_ne.mpr c8
         obtain rfl := Option.some.inj H
         have p142 : 0 ≤ (x13_1 : Int) := of_decide_eq_true as_
         have q142 : x13_1 < (l0.length : Int) := of_decide_eq_true as_
         obtain ⟨ad142, e142, hx142_0⟩ := Zv HR0.out x13_1 p142 q142
         cases e142
         replace p142 := eq_true p142
         replace q142 := eq_true q142
         have p143 : 0 ≤ (x13_1 : Int) := of_decide_eq_true as_
         have q143 : x13_1 < (l1.length : Int) := of_decide_eq_true as_
         obtain ⟨ad143, e143, hx143_0⟩ := Zv HR1.out x13_1 p143 q143
         cases e143
         replace p143 := eq_true p143
         replace q143 := eq_true q143
         go_wp2
         repeat (go_quiet (fail); try go_wp2)
         go_ret
         exact ⟨sm_, dr_⟩
       ·rw [if_neg c7] at H
        exact absurd H (by simp)
      ·rw [if_neg c6] at H
       exact absurd H (by simp)
     ·rw [if_neg c5] at H
      exact absurd H (by simp)
    ·rw [if_neg c4] at H
     have c4b0 : decide (x13_1 < (l0.length : Int)) = false := decide_eq_false c4
     clear c4
     obtain rfl := Option.some.inj H
     go_wp2
     repeat (go_quiet (fail); try go_wp2)
     go_ret
     exact ⟨sm_, dr_⟩
 ·rw [if_neg c3] at H
  have c3b0 : ((l0.length : Int) == (l1.length : Int)) = false := beq_eq_false_iff_ne.mpr c3
  have c3b1 : ((l0.length : Int) != (l1.length : Int)) = true := bne_iff_ne.mpr c3
  have c3b2 : (l0.length == l1.length) = false := by first | simpa using c3 | (simp at c3 ⊢; omega)
  obtain rfl := Option.some.inj H
  go_enter Try.func76, Try.ntmps76
  go_wp2
  repeat (go_quiet (fail); try go_wp2)
  go_ret
  exact ⟨sm_, dr_⟩

end Go.Proofs.Ytdlobolnajcfnaa.PFnGames
