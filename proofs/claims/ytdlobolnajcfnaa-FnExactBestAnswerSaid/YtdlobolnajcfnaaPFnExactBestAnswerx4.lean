-- Written by a program of this session (hooks of mine on the print): Lean checks it.
import Derived.Test.YtdlobolnajcfnaaPFnExactBestAnswerx0
import Derived.Test.YtdlobolnajcfnaaPFnExactBestAnswerx3
namespace Go.Proofs.Ytdlobolnajcfnaa.PFnExactBestAnswer
open Go.RowKit Go.Proofs.YtdlobolnajcfnaaW.PrintWords Go.Proofs.YtdlobolnajcfnaaW.PrintLast Go.Proofs.YtdlobolnajcfnaaW.PrintMore
attribute [local go_sem] max2_int min2_int max_two min_two max_three min_three max_four min_four   -- for this text's walks alone
set_option linter.unusedVariables false
set_option linter.unusedSimpArgs false

/-! ### spec_l8Best: function 64 -/
mutual
def spec_l8Wins.l0 : Nat → List Int → List Int → Int → Int → List (List Int) → Option (Bool)
  | 0, _, _, _, _, _ => none
  | k + 1, x1, x7, x8, x146000, x146001 => if x8 < (x7.length : Int) then (if 0 ≤ x8 then ((spec_l8Best.f k x146000 x146001 x1 (rd x7 x8)).bind fun t150 => (if t150 < 0 then (some false) else (spec_l8Wins.l0 k x1 x7 (wrap64 (x8 + 1)) x146000 x146001))) else (none)) else (some true)
def spec_l8Wins.f : Nat → Int → List (List Int) → List Int → Int → Option (Bool)
  | 0, _, _, _, _ => none
  | k + 1, a0_0, l0_1, l1, a2 => (spec_AttackersOf.f k a0_0 l0_1 a2).bind fun t146 => (spec_l8Wins.l0 k l1 t146 0 a0_0 l0_1)
def spec_l8Best.l0 : Nat → List Int → List Int → Int → Int → List (List Int) → Option (Int)
  | 0, _, _, _, _, _ => none
  | k + 1, x1, x3, x8, x173000, x173001 => if x8 < (x3.length : Int) then ((some (([] : List Int) : List Int)).bind fun y173 => (if y173.length + x1.length < 17592186044416 then ((some (y173 ++ x1 : List Int)).bind fun y176 => (if 0 ≤ x8 then ((some (([rd x3 x8] : List Int) : List Int)).bind fun y180 => (if y176.length + y180.length < 17592186044416 then ((spec_l8Wins.f k x173000 x173001 (y176 ++ y180) (rd x3 x8)).bind fun t187 => (if t187 = true then (some (rd x3 x8)) else (spec_l8Best.l0 k x1 x3 (wrap64 (x8 + 1)) x173000 x173001))) else (none))) else (none))) else (none))) else (some (-1))
def spec_l8Best.f : Nat → Int → List (List Int) → List Int → Int → Option (Int)
  | 0, _, _, _, _ => none
  | k + 1, a0_0, l0_1, l1, a2 => (spec_AnswersTo.f k a0_0 l0_1 l1 a2).bind fun t3 => (spec_l8Best.l0 k l1 t3 0 a0_0 l0_1)
end
theorem spec_l8Wins.mono_l : ∀ k, (∀ y0 y1 y2 y3 y4, LeO (spec_l8Wins.l0 k y0 y1 y2 y3 y4) (spec_l8Wins.l0 (k + 1) y0 y1 y2 y3 y4)) ∧ (∀ y0 y1 y2 y3, LeO (spec_l8Wins.f k y0 y1 y2 y3) (spec_l8Wins.f (k + 1) y0 y1 y2 y3)) ∧ (∀ y0 y1 y2 y3 y4, LeO (spec_l8Best.l0 k y0 y1 y2 y3 y4) (spec_l8Best.l0 (k + 1) y0 y1 y2 y3 y4)) ∧ (∀ y0 y1 y2 y3, LeO (spec_l8Best.f k y0 y1 y2 y3) (spec_l8Best.f (k + 1) y0 y1 y2 y3))
  | 0 => ⟨fun _ _ _ _ _  r h => by simp [spec_l8Wins.l0] at h, fun _ _ _ _  r h => by simp [spec_l8Wins.f] at h, fun _ _ _ _ _  r h => by simp [spec_l8Best.l0] at h, fun _ _ _ _  r h => by simp [spec_l8Best.f] at h⟩
  | k + 1 => by
    obtain ⟨ih0, ih1, ih2, ih3⟩ := spec_l8Wins.mono_l k
    refine ⟨?_, ?_, ?_, ?_⟩
    · intro y0 y1 y2 y3 y4
      unfold spec_l8Wins.l0
      repeat' first
      | (with_reducible exact ih0 _ _ _ _ _)
      | (with_reducible exact ih1 _ _ _ _)
      | (with_reducible exact ih2 _ _ _ _ _)
      | (with_reducible exact ih3 _ _ _ _)
      | (with_reducible exact spec_AttackersOf.mono _ _ _ _)
      | (with_reducible exact spec_AnswersTo.mono _ _ _ _ _)
      | (with_reducible exact LeO.refl _)
      | (with_reducible exact LeO.none _)
      | (with_reducible refine LeO.ite ?_ ?_)
      | (with_reducible refine LeO.bind ?_ (fun _ => ?_))
      | exact LeO.none _
      | refine LeO.ite ?_ ?_
      | refine LeO.bind ?_ (fun _ => ?_)
    · intro y0 y1 y2 y3
      unfold spec_l8Wins.f
      repeat' first
      | (with_reducible exact ih0 _ _ _ _ _)
      | (with_reducible exact ih1 _ _ _ _)
      | (with_reducible exact ih2 _ _ _ _ _)
      | (with_reducible exact ih3 _ _ _ _)
      | (with_reducible exact spec_AttackersOf.mono _ _ _ _)
      | (with_reducible exact spec_AnswersTo.mono _ _ _ _ _)
      | (with_reducible exact LeO.refl _)
      | (with_reducible exact LeO.none _)
      | (with_reducible refine LeO.ite ?_ ?_)
      | (with_reducible refine LeO.bind ?_ (fun _ => ?_))
      | exact LeO.none _
      | refine LeO.ite ?_ ?_
      | refine LeO.bind ?_ (fun _ => ?_)
    · intro y0 y1 y2 y3 y4
      unfold spec_l8Best.l0
      repeat' first
      | (with_reducible exact ih0 _ _ _ _ _)
      | (with_reducible exact ih1 _ _ _ _)
      | (with_reducible exact ih2 _ _ _ _ _)
      | (with_reducible exact ih3 _ _ _ _)
      | (with_reducible exact spec_AttackersOf.mono _ _ _ _)
      | (with_reducible exact spec_AnswersTo.mono _ _ _ _ _)
      | (with_reducible exact LeO.refl _)
      | (with_reducible exact LeO.none _)
      | (with_reducible refine LeO.ite ?_ ?_)
      | (with_reducible refine LeO.bind ?_ (fun _ => ?_))
      | exact LeO.none _
      | refine LeO.ite ?_ ?_
      | refine LeO.bind ?_ (fun _ => ?_)
    · intro y0 y1 y2 y3
      unfold spec_l8Best.f
      repeat' first
      | (with_reducible exact ih0 _ _ _ _ _)
      | (with_reducible exact ih1 _ _ _ _)
      | (with_reducible exact ih2 _ _ _ _ _)
      | (with_reducible exact ih3 _ _ _ _)
      | (with_reducible exact spec_AttackersOf.mono _ _ _ _)
      | (with_reducible exact spec_AnswersTo.mono _ _ _ _ _)
      | (with_reducible exact LeO.refl _)
      | (with_reducible exact LeO.none _)
      | (with_reducible refine LeO.ite ?_ ?_)
      | (with_reducible refine LeO.bind ?_ (fun _ => ?_))
      | exact LeO.none _
      | refine LeO.ite ?_ ?_
      | refine LeO.bind ?_ (fun _ => ?_)
theorem spec_l8Wins.mono : ∀ a0 a1 a2 a3 k, LeO (spec_l8Wins.f k a0 a1 a2 a3) (spec_l8Wins.f (k + 1) a0 a1 a2 a3) := fun a0 a1 a2 a3 k => (spec_l8Wins.mono_l k).2.1 a0 a1 a2 a3
theorem spec_l8Best.mono : ∀ a0 a1 a2 a3 k, LeO (spec_l8Best.f k a0 a1 a2 a3) (spec_l8Best.f (k + 1) a0 a1 a2 a3) := fun a0 a1 a2 a3 k => (spec_l8Wins.mono_l k).2.2.2 a0 a1 a2 a3
def spec_l8Wins.T5 : Bool × List (List Nat × List Nat) := (true, [([], []), ([], []), ([], []), ([], []), ([2, 3], [2, 3]), ([4], [4]), ([0, 1, 5], [0, 1, 5]), ([6], [6])])
def spec_l8Wins.B5 : List Nat := [0, 0, 0, 0, 12, 28, 63, 127]
theorem spec_l8Wins.tab5 : rtab .any (opsOf Try.f59 5) = spec_l8Wins.T5 := by kernel_rfl
theorem spec_l8Wins.bits5 : waitsOk spec_l8Wins.T5.2 spec_l8Wins.B5 = true := by kernel_rfl
def spec_l8Best.T5 : Bool × List (List Nat × List Nat) := (true, [([], []), ([], []), ([], []), ([1, 2], [1, 2]), ([], []), ([], []), ([4, 5], [4, 5]), ([6], [6]), ([7], [7]), ([3, 8, 3], [3, 8]), ([], []), ([], []), ([10, 11], [10, 11]), ([12], [12]), ([0, 9, 13, 9], [0, 9, 13])])
def spec_l8Best.B5 : List Nat := [0, 0, 0, 6, 0, 0, 48, 112, 240, 510, 0, 0, 3072, 7168, 16383]
theorem spec_l8Best.tab5 : rtab .any (opsOf Try.f64 5) = spec_l8Best.T5 := by kernel_rfl
theorem spec_l8Best.bits5 : waitsOk spec_l8Best.T5.2 spec_l8Best.B5 = true := by kernel_rfl
set_option maxHeartbeats 8000000 in
set_option maxRecDepth 100000 in
theorem spec_l8Wins.step (k : Nat) (ih : ∀ m, m < k → ∀ (a0_0 : Int) (A0_1 : Option Addr) (c0_1 : Nat) (l0_1 : List (List Int)) (A1 : Option Addr) (c1 : Nat) (l1 : List Int) (a2 : Int) (r : Int) (w : World) (hr0_1 : Kd.C (Kd.slice 3 (Kd.int .i64)) w A0_1 l0_1.length l0_1) (hc0_1 : l0_1.length ≤ c0_1) (hr1 : Kd.C (Kd.int .i64) w A1 l1.length l1) (hc1 : l1.length ≤ c1) (h : spec_l8Best.f m a0_0 l0_1 l1 a2 = some r), Calls Try.prog 64 #[.agg #[.int .i64 a0_0, .slice A0_1 l0_1.length c0_1], .slice A1 l1.length c1, .int .i64 a2] w fun e w' => e = .returned (.int .i64 r) ∧ Below w.heap.size w w') : ∀ (a0_0 : Int) (A0_1 : Option Addr) (c0_1 : Nat) (l0_1 : List (List Int)) (A1 : Option Addr) (c1 : Nat) (l1 : List Int) (a2 : Int) (r : Bool) (w : World) (hr0_1 : Kd.C (Kd.slice 3 (Kd.int .i64)) w A0_1 l0_1.length l0_1) (hc0_1 : l0_1.length ≤ c0_1) (hr1 : Kd.C (Kd.int .i64) w A1 l1.length l1) (hc1 : l1.length ≤ c1) (h : spec_l8Wins.f k a0_0 l0_1 l1 a2 = some r), Calls Try.prog 59 #[.agg #[.int .i64 a0_0, .slice A0_1 l0_1.length c0_1], .slice A1 l1.length c1, .int .i64 a2] w fun e w' => e = .returned (.bool r) ∧ Below w.heap.size w w' := by
  intro a0_0 A0_1 c0_1 l0_1 A1 c1 l1 a2 r w hr0_1 hc0_1 hr1 hc1 h
  cases k with
  | zero => exact absurd h (by simp [spec_l8Wins.f])
  | succ k =>
  simp only [spec_l8Wins.f] at h
  have hu27 := Try.underlying27
  have HR0_1 := Aside0.mk hr0_1
  have HC0_1 := Aside0.mk hc0_1
  clear hr0_1 hc0_1
  have HR1 := Aside0.mk hr1
  have HC1 := Aside0.mk hc1
  clear hr1 hc1
  have HB := Aside0.mk (Below.refl w.heap.size w)
  have H : ((spec_AttackersOf.f k a0_0 l0_1 a2).bind fun t146 => (spec_l8Wins.l0 k l1 t146 0 a0_0 l0_1)) = some r := h
  clear h
  replace H := Option.bind_eq_some_iff.mp H
  obtain ⟨t146, A40, H⟩ := H
  replace H : (spec_l8Wins.l0 k l1 t146 0 a0_0 l0_1) = some r := H
  have A4 := Aside0.mk A40
  clear A40
  have H' := Aside0.mk H
  clear H
  go_enter Try.func59, Try.ntmps59
  go_wp2_with (first | ((with_reducible refine gate_dst (N := 3) rfl ?_); refine box_event ?hg (N := 3) ?hd (cs := #[.int .i64 a0_0, .slice A0_1 l0_1.length c0_1]) (t := 27) ?hr ?_; (case hd => rfl); (case hg => rfl); (case hr => first | (go_simp; done) | (go_simp; rfl)); intro gb145 hg w5 hbox hb; have BK145 := Aside0.mk (hbox); have GW145 := Aside0.mk ((hz_ hg : w.heap.size ≤ gb145)); have GE145 := Aside0.mk ((hz_ hg : w.heap.size ≤ gb145)); replace HB := Aside0.mk (below_step hb_ hb); clear hb hbox hg; have hcz6_0 : w5.cell? ⟨gb145, 0, none⟩ = some (.int .i64 a0_0) := (blk_cell BK145.out 0).trans rfl; have hcz6_1 : w5.cell? ⟨gb145, 1, none⟩ = some (.slice A0_1 l0_1.length c0_1) := (blk_cell BK145.out 1).trans rfl; have hfz6_0 := blk_frozen BK145.out 0; have hfz6_1 := blk_frozen BK145.out 1) | ((with_reducible refine gate_callee (f := 106) rfl ?_); refine goesL_ (some 11) rfl rfl Try.func106 (by kernel_rfl) rfl #[.agg #[.int .i64 a0_0, .slice A0_1 l0_1.length c0_1], .int .i64 a2] rfl ar_ ?_; (with_reducible refine (spec_AttackersOf.calls k a0_0 _ _ l0_1 a2 t146 _ ?side1 ?side2 A4.out).mono ?_); (case side1 => exact cb_ HR0_1.out); (case side2 => exact HC0_1.out); rintro e w7 ⟨v147, rfl, ho0, hb⟩; refine ⟨_, rfl, ?_⟩; have HO148 := Aside0.mk (Kd.R_lower ho0 (below_size hb_)); replace BK145 := Aside0.mk (blk_below (g := gb145) (o := .cells #[.int .i64 a0_0, .slice A0_1 l0_1.length c0_1] 27 (0, 0)) (bk_ BK145.out) hb); replace HB := Aside0.mk (below_step hb_ hb); (try clear hb); (try clear hb2); (try clear hk); (try clear hi); (try clear ho0)))
  go_loopg [8] k (fun kq v8 w' => ∃ (x8_1 : Int), v8 = .int .i64 x8_1 ∧ Aside0 (spec_l8Wins.l0 kq l1 t146 x8_1 a0_0 l0_1 = some r) ∧ Aside0 (kq ≤ k) ∧ Aside0 (Kd.R (Kd.int .i64) 3 w' w.heap.size (fun _ => True) v147 t146) ∧ Aside0 (w'.heap[gb145]? = some (.cells #[.int .i64 a0_0, (.slice A0_1 l0_1.length c0_1)] 27 (0, 0))) ∧ Aside0 (Below w.heap.size w w'))
  case atStart => exact ⟨(0), sm_, H', ⟨Nat.le_refl _⟩, ⟨rR_ HO148.out⟩, ⟨bk_ BK145.out⟩, ⟨hb_⟩⟩
  case round =>
    clear H'
    try clear c1
    try clear p2
    try clear c5
    try clear hcz6_0
    try clear hcz6_1
    try clear hfz6_0
    try clear hfz6_1
    obtain ⟨x8_1, rfl, HA, HK1, HO_7, BK145, HB⟩ := hrel
    cases gk with
    | zero => exact absurd HA.out (by simp [spec_l8Wins.l0])
    | succ k1 =>
      have H := HA.out
      clear HA
      simp only [spec_l8Wins.l0] at H
      by_cases c8 : x8_1 < (t146.length : Int)
      · rw [if_pos c8] at H
        have c8b0 : decide (x8_1 < (t146.length : Int)) = true := decide_eq_true c8
        clear c8
        by_cases c9 : 0 ≤ x8_1
        · rw [if_pos c9] at H
          have c9b0 : decide (0 ≤ x8_1) = true := decide_eq_true c9
          clear c9
          replace H := Option.bind_eq_some_iff.mp H
          obtain ⟨t150, A100, H⟩ := H
          replace H : (if t150 < 0 then (some false) else (spec_l8Wins.l0 k1 l1 t146 (wrap64 (x8_1 + 1)) a0_0 l0_1)) = some r := H
          have A10 := Aside0.mk A100
          clear A100
          by_cases c11 : t150 < 0
          · rw [if_pos c11] at H
            have c11b0 : decide (t150 < 0) = true := decide_eq_true c11
            clear c11
            obtain rfl := Option.some.inj H
            obtain ⟨Ao12, co12, eo12⟩ := Kd.R_slice HO_7.out
            subst eo12
            try go_wp2
            replace HO_7 := Aside0.mk (Kd.R_drew HO_7.out)
            replace BK145 := Aside0.mk (blk_drew BK145.out)
            replace HB := Aside0.mk (below_drew1 HB.out)
            have p149 : 0 ≤ (x8_1 : Int) := of_decide_eq_true as_
            have q149 : x8_1 < (t146.length : Int) := of_decide_eq_true as_
            obtain ⟨ad149, e149, hx149_0⟩ := Kd.at_int (Kd.R_reads' HO_7.out).2.2 x8_1 p149 q149
            cases e149
            replace p149 := eq_true p149
            replace q149 := eq_true q149
            refine start_ (n := 8) (S := fun w' => w'.cell? ⟨gb145, 0, none⟩ = some (.int .i64 a0_0) ∧ w'.cell? ⟨gb145, 1, none⟩ = some (.slice A0_1 l0_1.length c0_1) ∧ w'.cell? (ad149.add (x8_1).toNat) = some (.int .i64 (rd t146 x8_1))) (ds := []) #[O,O,O,O,O,O,O,O] (by kernel_rfl) rfl rfl ⟨(blk_cell BK145.out 0).trans rfl, (blk_cell BK145.out 1).trans rfl, hx149_0⟩ (fun hHeld => ?_); refine with_tabW spec_l8Wins.tab5 spec_l8Wins.bits5 (fun HT_ HW_ => ?_)
            generalize wr.drew = w13 at HO_7 BK145 HB hx149_0 hHeld ⊢
            refine pu_ 1 19 #[O,Y,O,O,O,O,O,O] ?_
            refine pu_ 2 20 #[O,Y,Y,O,O,O,O,O] ?_
            refine pu_ 3 21 #[O,Y,Y,Y,O,O,O,O] ?_
            refine pu_ 4 22 #[O,Y,Y,Y,Y,O,O,O] ?_
            refine tk3_ 0 18 #[Y,Y,Y,Y,Y,O,O,O] hHeld ?_
            refine tk3_ 5 23 #[Y,Y,Y,Y,Y,Y,O,O] hHeld ?_
            refine on_ 6 24 #[Y,Y,Y,Y,Y,Y,Y,O] (fun K hK => ?_)
            refine goes_ Try.func64 (by kernel_rfl) rfl #[.agg #[.int .i64 a0_0, .slice A0_1 l0_1.length c0_1], .slice A1 l1.length c1, .int .i64 (rd t146 x8_1)] (by rfl) rfl rfl ar_ ?_
            with_reducible refine (ih k1 (by have := HK1.out; omega) a0_0 _ _ l0_1 _ _ l1 (rd t146 x8_1) t150 _ ?side1 ?side2 ?side3 ?side4 A10.out).mono ?_
            (case side1 => exact cb_ HR0_1.out)
            (case side2 => exact HC0_1.out)
            (case side3 => exact cb_ HR1.out)
            (case side4 => exact HC1.out)
            rintro e w14 ⟨rfl, hb⟩
            have HS2_ := (hb.cell (World.block_lt_of_cell? _ _ (hHeld.2.2))).trans (hHeld.2.2)
            refine ⟨_, rfl, ?_⟩
            replace HO_7 := Aside0.mk (Kd.R_below (rR_ HO_7.out) hb)
            replace BK145 := Aside0.mk (blk_below (g := gb145) (o := .cells #[.int .i64 a0_0, .slice A0_1 l0_1.length c0_1] 27 (0, 0)) (bk_ BK145.out) hb)
            replace HB := Aside0.mk (below_step hb_ hb)
            (try clear hb)
            (try clear hb2)
            (try clear hk)
            (try clear hi)
            refine hK.out _ _ ⟨(blk_cell BK145.out 0).trans rfl, (blk_cell BK145.out 1).trans rfl, HS2_⟩ (fun hHeld => ?_)
            clear hK K
            refine no_ 24 ?_
            refine pu_ 7 25 #[Y,Y,Y,Y,Y,Y,Y,Y] ?_
            refine done_ (done_of HT_.out (by kernel_rfl)) ?_
            try go_wp2
            go_ret
            exact ⟨er_, hb_⟩
          · rw [if_neg c11] at H
            have c11b0 : decide (t150 < 0) = false := decide_eq_false c11
            clear c11
            have H' := Aside0.mk H
            clear H
            obtain ⟨Ao15, co15, eo15⟩ := Kd.R_slice HO_7.out
            subst eo15
            try go_wp2
            replace HO_7 := Aside0.mk (Kd.R_drew HO_7.out)
            replace BK145 := Aside0.mk (blk_drew BK145.out)
            replace HB := Aside0.mk (below_drew1 HB.out)
            have p149 : 0 ≤ (x8_1 : Int) := of_decide_eq_true as_
            have q149 : x8_1 < (t146.length : Int) := of_decide_eq_true as_
            obtain ⟨ad149, e149, hx149_0⟩ := Kd.at_int (Kd.R_reads' HO_7.out).2.2 x8_1 p149 q149
            cases e149
            replace p149 := eq_true p149
            replace q149 := eq_true q149
            refine start_ (n := 8) (S := fun w' => w'.cell? ⟨gb145, 0, none⟩ = some (.int .i64 a0_0) ∧ w'.cell? ⟨gb145, 1, none⟩ = some (.slice A0_1 l0_1.length c0_1) ∧ w'.cell? (ad149.add (x8_1).toNat) = some (.int .i64 (rd t146 x8_1))) (ds := []) #[O,O,O,O,O,O,O,O] (by kernel_rfl) rfl rfl ⟨(blk_cell BK145.out 0).trans rfl, (blk_cell BK145.out 1).trans rfl, hx149_0⟩ (fun hHeld => ?_); refine with_tabW spec_l8Wins.tab5 spec_l8Wins.bits5 (fun HT_ HW_ => ?_)
            generalize wr.drew = w16 at HO_7 BK145 HB hx149_0 hHeld ⊢
            refine pu_ 1 19 #[O,Y,O,O,O,O,O,O] ?_
            refine pu_ 2 20 #[O,Y,Y,O,O,O,O,O] ?_
            refine pu_ 3 21 #[O,Y,Y,Y,O,O,O,O] ?_
            refine pu_ 4 22 #[O,Y,Y,Y,Y,O,O,O] ?_
            refine tk3_ 0 18 #[Y,Y,Y,Y,Y,O,O,O] hHeld ?_
            refine tk3_ 5 23 #[Y,Y,Y,Y,Y,Y,O,O] hHeld ?_
            refine on_ 6 24 #[Y,Y,Y,Y,Y,Y,Y,O] (fun K hK => ?_)
            refine goes_ Try.func64 (by kernel_rfl) rfl #[.agg #[.int .i64 a0_0, .slice A0_1 l0_1.length c0_1], .slice A1 l1.length c1, .int .i64 (rd t146 x8_1)] (by rfl) rfl rfl ar_ ?_
            with_reducible refine (ih k1 (by have := HK1.out; omega) a0_0 _ _ l0_1 _ _ l1 (rd t146 x8_1) t150 _ ?side1 ?side2 ?side3 ?side4 A10.out).mono ?_
            (case side1 => exact cb_ HR0_1.out)
            (case side2 => exact HC0_1.out)
            (case side3 => exact cb_ HR1.out)
            (case side4 => exact HC1.out)
            rintro e w17 ⟨rfl, hb⟩
            have HS2_ := (hb.cell (World.block_lt_of_cell? _ _ (hHeld.2.2))).trans (hHeld.2.2)
            refine ⟨_, rfl, ?_⟩
            replace HO_7 := Aside0.mk (Kd.R_below (rR_ HO_7.out) hb)
            replace BK145 := Aside0.mk (blk_below (g := gb145) (o := .cells #[.int .i64 a0_0, .slice A0_1 l0_1.length c0_1] 27 (0, 0)) (bk_ BK145.out) hb)
            replace HB := Aside0.mk (below_step hb_ hb)
            (try clear hb)
            (try clear hb2)
            (try clear hk)
            (try clear hi)
            refine hK.out _ _ ⟨(blk_cell BK145.out 0).trans rfl, (blk_cell BK145.out 1).trans rfl, HS2_⟩ (fun hHeld => ?_)
            clear hK K
            refine no_ 24 ?_
            refine pu_ 7 25 #[Y,Y,Y,Y,Y,Y,Y,Y] ?_
            refine done_ (done_of HT_.out (by kernel_rfl)) ?_
            try go_wp2
            go_roundg k1
            case measure => have := HK1.out; omega
            case rel => exact ⟨(wrap64 (x8_1 + 1)), sm_, H', ⟨by have := HK1.out; omega⟩, ⟨rR_ HO_7.out⟩, ⟨bk_ BK145.out⟩, ⟨hb_⟩⟩
        · rw [if_neg c9] at H
          exact absurd H (by simp)
      · rw [if_neg c8] at H
        have c8b0 : decide (x8_1 < (t146.length : Int)) = false := decide_eq_false c8
        clear c8
        obtain rfl := Option.some.inj H
        obtain ⟨Ao18, co18, eo18⟩ := Kd.R_slice HO_7.out
        subst eo18
        go_wp2
        go_ret
        exact ⟨er_, hb_⟩
set_option maxHeartbeats 8000000 in
set_option maxRecDepth 100000 in
theorem spec_l8Best.step (k : Nat) (ih : ∀ m, m < k → ∀ (a0_0 : Int) (A0_1 : Option Addr) (c0_1 : Nat) (l0_1 : List (List Int)) (A1 : Option Addr) (c1 : Nat) (l1 : List Int) (a2 : Int) (r : Bool) (w : World) (hr0_1 : Kd.C (Kd.slice 3 (Kd.int .i64)) w A0_1 l0_1.length l0_1) (hc0_1 : l0_1.length ≤ c0_1) (hr1 : Kd.C (Kd.int .i64) w A1 l1.length l1) (hc1 : l1.length ≤ c1) (h : spec_l8Wins.f m a0_0 l0_1 l1 a2 = some r), Calls Try.prog 59 #[.agg #[.int .i64 a0_0, .slice A0_1 l0_1.length c0_1], .slice A1 l1.length c1, .int .i64 a2] w fun e w' => e = .returned (.bool r) ∧ Below w.heap.size w w') : ∀ (a0_0 : Int) (A0_1 : Option Addr) (c0_1 : Nat) (l0_1 : List (List Int)) (A1 : Option Addr) (c1 : Nat) (l1 : List Int) (a2 : Int) (r : Int) (w : World) (hr0_1 : Kd.C (Kd.slice 3 (Kd.int .i64)) w A0_1 l0_1.length l0_1) (hc0_1 : l0_1.length ≤ c0_1) (hr1 : Kd.C (Kd.int .i64) w A1 l1.length l1) (hc1 : l1.length ≤ c1) (h : spec_l8Best.f k a0_0 l0_1 l1 a2 = some r), Calls Try.prog 64 #[.agg #[.int .i64 a0_0, .slice A0_1 l0_1.length c0_1], .slice A1 l1.length c1, .int .i64 a2] w fun e w' => e = .returned (.int .i64 r) ∧ Below w.heap.size w w' := by
  intro a0_0 A0_1 c0_1 l0_1 A1 c1 l1 a2 r w hr0_1 hc0_1 hr1 hc1 h
  cases k with
  | zero => exact absurd h (by simp [spec_l8Best.f])
  | succ k =>
  simp only [spec_l8Best.f] at h
  have hu27 := Try.underlying27
  have HR0_1 := Aside0.mk hr0_1
  have HC0_1 := Aside0.mk hc0_1
  clear hr0_1 hc0_1
  have HR1 := Aside0.mk hr1
  have HC1 := Aside0.mk hc1
  clear hr1 hc1
  have HB := Aside0.mk (Below.refl w.heap.size w)
  have H : ((spec_AnswersTo.f k a0_0 l0_1 l1 a2).bind fun t3 => (spec_l8Best.l0 k l1 t3 0 a0_0 l0_1)) = some r := h
  clear h
  replace H := Option.bind_eq_some_iff.mp H
  obtain ⟨l3, A30, H⟩ := H
  have A3 := Aside0.mk A30
  clear A30
  have H' := Aside0.mk (show spec_l8Best.l0 k l1 l3 0 a0_0 l0_1 = some r from H)
  clear H
  go_enter Try.func64, Try.ntmps64
  go_wp2_with (first | ((with_reducible refine gate_dst (N := 3) rfl ?_); refine box_event ?hg (N := 3) ?hd (cs := #[.int .i64 a0_0, .slice A0_1 l0_1.length c0_1]) (t := 27) ?hr ?_; (case hd => rfl); (case hg => rfl); (case hr => first | (go_simp; done) | (go_simp; rfl)); intro gb172 hg w5 hbox hb; have BK172 := Aside0.mk (hbox); have GW172 := Aside0.mk ((hz_ hg : w.heap.size ≤ gb172)); have GE172 := Aside0.mk ((hz_ hg : w.heap.size ≤ gb172)); replace HB := Aside0.mk (below_step hb_ hb); clear hb hbox hg; have hcz6_0 : w5.cell? ⟨gb172, 0, none⟩ = some (.int .i64 a0_0) := (blk_cell BK172.out 0).trans rfl; have hcz6_1 : w5.cell? ⟨gb172, 1, none⟩ = some (.slice A0_1 l0_1.length c0_1) := (blk_cell BK172.out 1).trans rfl; have hfz6_0 := blk_frozen BK172.out 0; have hfz6_1 := blk_frozen BK172.out 1) | ((with_reducible refine gate_callee (f := 107) rfl ?_); refine goesL_ (some 12) rfl rfl Try.func107 (by kernel_rfl) rfl #[.agg #[.int .i64 a0_0, .slice A0_1 l0_1.length c0_1], .slice A1 l1.length c1, .int .i64 a2] rfl ar_ ?_; (with_reducible refine (spec_AnswersTo.calls k a0_0 _ _ l0_1 _ _ l1 a2 l3 _ ?side1 ?side2 ?side3 ?side4 A3.out).mono ?_); (case side1 => exact cb_ HR0_1.out); (case side2 => exact HC0_1.out); (case side3 => exact cb_ HR1.out); (case side4 => exact HC1.out); rintro e wb ⟨v248, rfl, ho0, hb⟩; refine ⟨_, rfl, ?_⟩; have HO := Aside0.mk ho0; have n1_ := Aside0.mk (blk_below (g := gb172) (o := .cells #[.int .i64 a0_0, .slice A0_1 l0_1.length c0_1] 27 (0, 0)) (bk_ BK172.out) hb); have HB0 := Aside0.mk (below_step hb_ hb); clear BK172; clear HB; have BK172 := n1_; clear n1_; clear hb ho0; obtain ⟨A3_, c3, e3⟩ := Kd.R_slice HO.out; subst e3))
  replace HR0_1 := Aside0.mk (Kd.C_below HR0_1.out HB0.out)
  replace HR1 := Aside0.mk (Kd.C_below HR1.out HB0.out)
  have HR3 := Aside0.mk ((Kd.R_reads' HO.out).2.2)
  have HC3 := Aside0.mk ((Kd.R_reads' HO.out).2.1)
  have HB := Aside0.mk (Below.refl wb.heap.size wb)
  clear HO
  go_loopg [8] k (fun kq v8 w' => ∃ (x8_1 : Int), v8 = .int .i64 x8_1 ∧ Aside0 (spec_l8Best.l0 kq l1 l3 x8_1 a0_0 l0_1 = some r) ∧ Aside0 (kq ≤ k) ∧ Aside0 (w'.heap[gb172]? = some (.cells #[.int .i64 a0_0, (.slice A0_1 l0_1.length c0_1)] 27 (0, 0))) ∧ Aside0 (Below wb.heap.size wb w'))
  case atStart => exact ⟨(0), sm_, H', ⟨Nat.le_refl _⟩, ⟨bk_ BK172.out⟩, ⟨hb_⟩⟩
  case round =>
    clear H'
    try clear c1
    try clear p2
    try clear c3
    obtain ⟨x8_1, rfl, HA, HK1, BK172, HB⟩ := hrel
    cases gk with
    | zero => exact absurd HA.out (by simp [spec_l8Best.l0])
    | succ k1 =>
      have H := HA.out
      clear HA
      simp only [spec_l8Best.l0] at H
      by_cases c6 : x8_1 < (l3.length : Int)
      · rw [if_pos c6] at H
        have c6b0 : decide (x8_1 < (l3.length : Int)) = true := decide_eq_true c6
        clear c6
        obtain ⟨y173, hy173⟩ : ∃ y_ : List Int, y_ = (([] : List Int)) := ⟨_, rfl⟩
        replace H : (if y173.length + l1.length < 17592186044416 then ((some (y173 ++ l1 : List Int)).bind fun y176 => (if 0 ≤ x8_1 then ((some (([rd l3 x8_1] : List Int) : List Int)).bind fun y180 => (if y176.length + y180.length < 17592186044416 then ((spec_l8Wins.f k1 a0_0 l0_1 (y176 ++ y180) (rd l3 x8_1)).bind fun t187 => (if t187 = true then (some (rd l3 x8_1)) else (spec_l8Best.l0 k1 l1 l3 (wrap64 (x8_1 + 1)) a0_0 l0_1))) else (none))) else (none))) else (none)) = some r := hy_ hy173 H
        have Ny173 := Aside0.mk hy173
        clear hy173
        by_cases c7 : y173.length + l1.length < 17592186044416
        · rw [if_pos c7] at H
          have LMc7 := Aside0.mk c7
          clear c7
          obtain ⟨y176, hy176⟩ : ∃ y_ : List Int, y_ = (y173 ++ l1) := ⟨_, rfl⟩
          replace H : (if 0 ≤ x8_1 then ((some (([rd l3 x8_1] : List Int) : List Int)).bind fun y180 => (if y176.length + y180.length < 17592186044416 then ((spec_l8Wins.f k1 a0_0 l0_1 (y176 ++ y180) (rd l3 x8_1)).bind fun t187 => (if t187 = true then (some (rd l3 x8_1)) else (spec_l8Best.l0 k1 l1 l3 (wrap64 (x8_1 + 1)) a0_0 l0_1))) else (none))) else (none)) = some r := hy_ hy176 H
          have Ny176 := Aside0.mk hy176
          clear hy176
          by_cases c8 : 0 ≤ x8_1
          · rw [if_pos c8] at H
            have c8b0 : decide (0 ≤ x8_1) = true := decide_eq_true c8
            clear c8
            obtain ⟨y180, hy180⟩ : ∃ y_ : List Int, y_ = (([rd l3 x8_1] : List Int)) := ⟨_, rfl⟩
            replace H : (if y176.length + y180.length < 17592186044416 then ((spec_l8Wins.f k1 a0_0 l0_1 (y176 ++ y180) (rd l3 x8_1)).bind fun t187 => (if t187 = true then (some (rd l3 x8_1)) else (spec_l8Best.l0 k1 l1 l3 (wrap64 (x8_1 + 1)) a0_0 l0_1))) else (none)) = some r := hy_ hy180 H
            have Ny180 := Aside0.mk hy180
            clear hy180
            by_cases c9 : y176.length + y180.length < 17592186044416
            · rw [if_pos c9] at H
              have LMc9 := Aside0.mk c9
              clear c9
              obtain ⟨y183, hy183⟩ : ∃ y_ : List Int, y_ = (y176 ++ y180) := ⟨_, rfl⟩
              replace H : ((spec_l8Wins.f k1 a0_0 l0_1 y183 (rd l3 x8_1)).bind fun t187 => (if t187 = true then (some (rd l3 x8_1)) else (spec_l8Best.l0 k1 l1 l3 (wrap64 (x8_1 + 1)) a0_0 l0_1))) = some r := hy_ hy183 H
              have Ny183 := Aside0.mk hy183
              clear hy183
              replace H := Option.bind_eq_some_iff.mp H
              obtain ⟨t187, A100, H⟩ := H
              replace H : (if t187 = true then (some (rd l3 x8_1)) else (spec_l8Best.l0 k1 l1 l3 (wrap64 (x8_1 + 1)) a0_0 l0_1)) = some r := H
              have A10 := Aside0.mk A100
              clear A100
              by_cases c11 : t187 = true
              · subst c11
                have H1 : (some (rd l3 x8_1)) = some r := by rw [if_pos rfl] at H; exact H
                clear H
                have H := H1
                clear H1
                obtain rfl := Option.some.inj H
                try go_wp2
                replace BK172 := Aside0.mk (blk_drew BK172.out)
                replace HB := Aside0.mk (below_drew1 HB.out)
                have p179 : 0 ≤ (x8_1 : Int) := of_decide_eq_true as_
                have q179 : x8_1 < (l3.length : Int) := of_decide_eq_true as_
                obtain ⟨ad179, e179, hx179_0⟩ := Kd.at_int HR3.out x8_1 p179 q179
                have hw179_0 := hx179_0
                cases e179
                replace hx179_0 := (HB.out.cell (World.block_lt_of_cell? wb _ hx179_0)).trans hx179_0
                replace p179 := eq_true p179
                replace q179 := eq_true q179
                have p186 : 0 ≤ (x8_1 : Int) := of_decide_eq_true as_
                have q186 : x8_1 < (l3.length : Int) := of_decide_eq_true as_
                obtain ⟨ad186, e186, hx186_0⟩ := Kd.at_int HR3.out x8_1 p186 q186
                have hw186_0 := hx186_0
                obtain rfl : ad179 = ad186 := (by injection e186)
                replace hx186_0 := (HB.out.cell (World.block_lt_of_cell? wb _ hx186_0)).trans hx186_0
                replace p186 := eq_true p186
                replace q186 := eq_true q186
                refine start_ (n := 15) (S := fun w' => w'.cell? ⟨gb172, 0, none⟩ = some (.int .i64 a0_0) ∧ w'.cell? ⟨gb172, 1, none⟩ = some (.slice A0_1 l0_1.length c0_1) ∧ w'.cell? (ad179.add (x8_1).toNat) = some (.int .i64 (rd l3 x8_1)) ∧ w'.cell? (ad179.add (x8_1).toNat) = some (.int .i64 (rd l3 x8_1))) (ds := []) #[O,O,O,O,O,O,O,O,O,O,O,O,O,O,O] (by kernel_rfl) rfl rfl ⟨(blk_cell BK172.out 0).trans rfl, (blk_cell BK172.out 1).trans rfl, ((HB.out.cell (World.block_lt_of_cell? wb _ hw179_0)).trans hw179_0), ((HB.out.cell (World.block_lt_of_cell? wb _ hw186_0)).trans hw186_0)⟩ (fun hHeld => ?_); refine with_tabW spec_l8Best.tab5 spec_l8Best.bits5 (fun HT_ HW_ => ?_)
                generalize wr.drew = w12 at BK172 HB hx179_0 hx186_0 hHeld ⊢
                refine pu_ 2 21 #[O,O,Y,O,O,O,O,O,O,O,O,O,O,O,O] ?_
                refine pu_ 4 23 #[O,O,Y,O,Y,O,O,O,O,O,O,O,O,O,O] ?_
                refine pu_ 5 24 #[O,O,Y,O,Y,Y,O,O,O,O,O,O,O,O,O] ?_
                refine pu_ 6 25 #[O,O,Y,O,Y,Y,Y,O,O,O,O,O,O,O,O] ?_
                refine pu_ 10 29 #[O,O,Y,O,Y,Y,Y,O,O,O,Y,O,O,O,O] ?_
                refine pu_ 11 30 #[O,O,Y,O,Y,Y,Y,O,O,O,Y,Y,O,O,O] ?_
                refine pu_ 12 31 #[O,O,Y,O,Y,Y,Y,O,O,O,Y,Y,Y,O,O] ?_
                refine tk4_ 0 19 #[Y,O,Y,O,Y,Y,Y,O,O,O,Y,Y,Y,O,O] hHeld ?_
                refine tk4_ 7 26 #[Y,O,Y,O,Y,Y,Y,Y,O,O,Y,Y,Y,O,O] hHeld ?_
                refine tk4_ 13 32 #[Y,O,Y,O,Y,Y,Y,Y,O,O,Y,Y,Y,Y,O] hHeld ?_
                refine join_ (σ := Value × Value × Value) 2 #[Y,Y,Y,Y,Y,Y,Y,Y,Y,O,Y,Y,Y,Y,O] (fun s_ => [(20, s_.1), (22, s_.2.1), (27, s_.2.2)]) (fun s_ w' => (w'.cell? ⟨gb172, 0, none⟩ = some (.int .i64 a0_0) ∧ w'.cell? ⟨gb172, 1, none⟩ = some (.slice A0_1 l0_1.length c0_1) ∧ w'.cell? (ad179.add (x8_1).toNat) = some (.int .i64 (rd l3 x8_1)) ∧ w'.cell? (ad179.add (x8_1).toNat) = some (.int .i64 (rd l3 x8_1))) ∧ (Kd.R (Kd.int .i64) 3 w' wb.heap.size (fun k_ => some k_ ≠ (s_.2.2 : Value).ownBlock) s_.2.1 y176) ∧ (Kd.R (Kd.int .i64) 3 w' wb.heap.size (fun k_ => some k_ ≠ (s_.2.1 : Value).ownBlock) s_.2.2 y180) ∧ (w'.heap[gb172]? = some (.cells #[.int .i64 a0_0, .slice A0_1 l0_1.length c0_1] 27 (0, 0))) ∧ (Below wb.heap.size wb w')) ?_ ?_
                rotate_left
                · intro hCont
                  refine two_ (i := 1) (j := 8) (Ni := some 20) (Nj := some 27) #[Y,Y,Y,O,Y,Y,Y,Y,O,O,Y,Y,Y,Y,O] #[Y,O,Y,O,Y,Y,Y,Y,Y,O,Y,Y,Y,Y,O] rfl rfl rfl rfl (two_of HT_.out (by kernel_rfl)) (by decide) (by decide) (fun K hK => ?_) (fun K hK => ?_)
                  · skip
                    refine Kd.R_lit_step (Kd.int .i64) _ 3 ?hg (N := 20) ?hd (xs := ([] : List Int)) (inner := []) (ok := fun _ => True) (okp := fun _ => True) ?hr ?hp (fun _ hk => hk) trivial (Below.refl _ _) (Nat.le_refl _) (by simp) ?_; (case hd => rfl); (case hg => rfl); (case hr => first | (go_simp; done) | (go_simp; rfl)); (case hp => exact (Reps.none _ _))
                    intro v174 w13 ho14 hb hg_ hnew_
                    clear hg_ hnew_
                    (first | rw [← Ny173.out] at ho14 | (simp only [Int.reduceToNat] at ho14; rw [← Ny173.out] at ho14))
                    have HO175 := Aside0.mk (Kd.R_lower ho14 (below_size hb_))
                    replace BK172 := Aside0.mk (blk_below (g := gb172) (o := .cells #[.int .i64 a0_0, .slice A0_1 l0_1.length c0_1] 27 (0, 0)) (bk_ BK172.out) hb)
                    replace HB := Aside0.mk (below_step hb_ hb)
                    clear hb ho14
                    refine hK.out _ _ ⟨(blk_cell BK172.out 0).trans rfl, (blk_cell BK172.out 1).trans rfl, ((HB.out.cell (World.block_lt_of_cell? wb _ hw179_0)).trans hw179_0), ((HB.out.cell (World.block_lt_of_cell? wb _ hw186_0)).trans hw186_0)⟩ (fun hHeld => ?_)
                    clear hK K
                    refine no_ 20 ?_
                    refine two_ (i := 3) (j := 8) (Ni := some 22) (Nj := some 27) #[Y,Y,Y,Y,Y,Y,Y,Y,O,O,Y,Y,Y,Y,O] #[Y,Y,Y,O,Y,Y,Y,Y,Y,O,Y,Y,Y,Y,O] rfl rfl rfl rfl (two_of HT_.out (by kernel_rfl)) (by decide) (by decide) (fun K hK => ?_) (fun K hK => ?_)
                    · skip
                      refine Kd.R_append_rows_step (Kd.int .i64) (w0 := wb) wb.heap.size (by rfl) (.tmp 20) (.tmp 21) 31 3 (.int .i64 0) 8 rfl Try.underlying31 info3 rfl (by decide) (by omega) v174 y173 l1 _ _ _ (fun _ => True) (fun _ => False) rfl rfl ?aO ?aR (fun _ _ h => h) (fun _ h => h.elim) ?aF ?aB ?aS ?aL ?_
                      (case aR => exact cb_ HR1.out)
                      (case aB => exact hb_)
                      (case aF => exact (fun _ _ => trivial))
                      (case aO => exact (rR_ HO175.out))
                      (case aS => exact (below_size hb_))
                      (case aL => have := LMc7.out; omega)
                      intro v177 w15 ho hb hg hat
                      rw [← Ny176.out] at ho
                      have n0_ := Aside0.mk (blk_grown (g := gb172) (o := .cells #[.int .i64 a0_0, .slice A0_1 l0_1.length c0_1] 27 (0, 0)) (bk_ BK172.out) hg (Kd.R_ne HO175.out BK172.out (by decide)))
                      have n1_ := Aside0.mk (hb)
                      have n2_ := Aside0.mk (ho)
                      clear BK172
                      clear HB
                      clear HO175
                      have BK172 := n0_
                      have HB := n1_
                      have HO178 := n2_
                      clear n0_ n1_ n2_
                      clear ho hb hg hat
                      refine hK.out _ _ ⟨(blk_cell BK172.out 0).trans rfl, (blk_cell BK172.out 1).trans rfl, ((HB.out.cell (World.block_lt_of_cell? wb _ hw179_0)).trans hw179_0), ((HB.out.cell (World.block_lt_of_cell? wb _ hw186_0)).trans hw186_0)⟩ (fun hHeld => ?_)
                      clear hK K
                      refine no_ 22 ?_
                      refine on_ 8 27 #[Y,Y,Y,Y,Y,Y,Y,Y,Y,O,Y,Y,Y,Y,O] (fun K hK => ?_)
                      refine Kd.R_lit_step (Kd.int .i64) _ 3 ?hg (N := 27) ?hd (xs := ([rd l3 x8_1] : List Int)) (inner := [.int .i64 (rd l3 x8_1)]) (ok := fun _ => True) (okp := fun _ => True) ?hr ?hp (fun _ hk => hk) trivial (Below.refl _ _) (Nat.le_refl _) (by simp) ?_; (case hd => rfl); (case hg => rfl); (case hr => first | (go_simp; done) | (go_simp; rfl)); (case hp => exact (Reps.one (show Kd.M (Kd.int .i64) _ _ _ (rd l3 x8_1) [.int .i64 (rd l3 x8_1)] from rfl) (Reps.none _ _)))
                      intro v181 w16 ho17 hb hg_ hnew_
                      clear hg_ hnew_
                      (first | rw [← Ny180.out] at ho17 | (simp only [Int.reduceToNat] at ho17; rw [← Ny180.out] at ho17))
                      have HO182 := Aside0.mk (Kd.R_lower (Kd.R_new' ho17 (Kd.R_lt (rR_ HO178.out))) (below_size hb_))
                      replace HO178 := Aside0.mk (Kd.R_elder' (rR_ HO178.out) (Kd.R_base ho17) hb)
                      replace BK172 := Aside0.mk (blk_below (g := gb172) (o := .cells #[.int .i64 a0_0, .slice A0_1 l0_1.length c0_1] 27 (0, 0)) (bk_ BK172.out) hb)
                      replace HB := Aside0.mk (below_step hb_ hb)
                      clear hb ho17
                      refine hK.out _ _ ⟨(blk_cell BK172.out 0).trans rfl, (blk_cell BK172.out 1).trans rfl, ((HB.out.cell (World.block_lt_of_cell? wb _ hw179_0)).trans hw179_0), ((HB.out.cell (World.block_lt_of_cell? wb _ hw186_0)).trans hw186_0)⟩ (fun hHeld => ?_)
                      clear hK K
                      refine no_ 27 ?_
                      exact norm_ (by simp only [putAll, Act.put, List.setIfInBounds_toArray, List.set_cons_zero, List.set_cons_succ]) (hCont (v174, v177, v181) _ ⟨hHeld, (by (with_reducible repeat (first | apply Kd.R_alloc | apply Kd.R_drewN | apply Kd.R_drew)); exact Kd.R_mono HO178.out (fun _ hk => hk.2)), (by (with_reducible repeat (first | apply Kd.R_alloc | apply Kd.R_drewN | apply Kd.R_drew)); exact Kd.R_mono HO182.out (fun _ hk => hk.2)), (bk_ BK172.out), hb_⟩)
                    · skip
                      refine Kd.R_lit_step (Kd.int .i64) _ 3 ?hg (N := 27) ?hd (xs := ([rd l3 x8_1] : List Int)) (inner := [.int .i64 (rd l3 x8_1)]) (ok := fun _ => True) (okp := fun _ => True) ?hr ?hp (fun _ hk => hk) trivial (Below.refl _ _) (Nat.le_refl _) (by simp) ?_; (case hd => rfl); (case hg => rfl); (case hr => first | (go_simp; done) | (go_simp; rfl)); (case hp => exact (Reps.one (show Kd.M (Kd.int .i64) _ _ _ (rd l3 x8_1) [.int .i64 (rd l3 x8_1)] from rfl) (Reps.none _ _)))
                      intro v181 w15 ho16 hb hg_ hnew_
                      clear hg_ hnew_
                      (first | rw [← Ny180.out] at ho16 | (simp only [Int.reduceToNat] at ho16; rw [← Ny180.out] at ho16))
                      have HO182 := Aside0.mk (Kd.R_lower (Kd.R_new' ho16 (Kd.R_lt (rR_ HO175.out))) (below_size hb_))
                      replace HO175 := Aside0.mk (Kd.R_elder' (rR_ HO175.out) (Kd.R_base ho16) hb)
                      replace BK172 := Aside0.mk (blk_below (g := gb172) (o := .cells #[.int .i64 a0_0, .slice A0_1 l0_1.length c0_1] 27 (0, 0)) (bk_ BK172.out) hb)
                      replace HB := Aside0.mk (below_step hb_ hb)
                      clear hb ho16
                      refine hK.out _ _ ⟨(blk_cell BK172.out 0).trans rfl, (blk_cell BK172.out 1).trans rfl, ((HB.out.cell (World.block_lt_of_cell? wb _ hw179_0)).trans hw179_0), ((HB.out.cell (World.block_lt_of_cell? wb _ hw186_0)).trans hw186_0)⟩ (fun hHeld => ?_)
                      clear hK K
                      refine no_ 27 ?_
                      refine on_ 3 22 #[Y,Y,Y,Y,Y,Y,Y,Y,Y,O,Y,Y,Y,Y,O] (fun K hK => ?_)
                      refine Kd.R_append_rows_step (Kd.int .i64) (w0 := wb) wb.heap.size (by rfl) (.tmp 20) (.tmp 21) 31 3 (.int .i64 0) 8 rfl Try.underlying31 info3 rfl (by decide) (by omega) v174 y173 l1 _ _ _ (fun k_ => some k_ ≠ (v181 : Value).ownBlock) (fun _ => False) rfl rfl ?aO ?aR (fun _ _ h => h) (fun _ h => h.elim) ?aF ?aB ?aS ?aL ?_
                      (case aR => exact cb_ HR1.out)
                      (case aB => exact hb_)
                      (case aF => exact (fun k_ hk => Kd.fresh' (Kd.R_lt (rR_ HO182.out)) k_ hk))
                      (case aO => exact (by (with_reducible repeat (first | apply Kd.R_alloc | apply Kd.R_drewN | apply Kd.R_drew)); exact Kd.R_mono HO175.out (fun _ hk => hk.2)))
                      (case aS => exact (below_size hb_))
                      (case aL => have := LMc7.out; omega)
                      intro v177 w17 ho hb hg hat
                      rw [← Ny176.out] at ho
                      have n0_ := Aside0.mk (blk_grown (g := gb172) (o := .cells #[.int .i64 a0_0, .slice A0_1 l0_1.length c0_1] 27 (0, 0)) (bk_ BK172.out) hg (Kd.R_ne HO175.out BK172.out (by decide)))
                      have n1_ := Aside0.mk (Kd.R_after (ok := (fun _ => True)) (rR_ HO182.out) hg hat)
                      have n2_ := Aside0.mk (hb)
                      have n3_ := Aside0.mk (ho)
                      clear BK172
                      clear HO182
                      clear HB
                      clear HO175
                      have BK172 := n0_
                      have HO182 := n1_
                      have HB := n2_
                      have HO178 := n3_
                      clear n0_ n1_ n2_ n3_
                      clear ho hb hg hat
                      refine hK.out _ _ ⟨(blk_cell BK172.out 0).trans rfl, (blk_cell BK172.out 1).trans rfl, ((HB.out.cell (World.block_lt_of_cell? wb _ hw179_0)).trans hw179_0), ((HB.out.cell (World.block_lt_of_cell? wb _ hw186_0)).trans hw186_0)⟩ (fun hHeld => ?_)
                      clear hK K
                      refine no_ 22 ?_
                      exact norm_ (by simp only [putAll, Act.put, List.setIfInBounds_toArray, List.set_cons_zero, List.set_cons_succ]) (hCont (v174, v177, v181) _ ⟨hHeld, (rR_ HO178.out), (by (with_reducible repeat (first | apply Kd.R_alloc | apply Kd.R_drewN | apply Kd.R_drew)); exact Kd.R_mono HO182.out (fun _ hk => hk.2)), (bk_ BK172.out), hb_⟩)
                  · skip
                    refine Kd.R_lit_step (Kd.int .i64) _ 3 ?hg (N := 27) ?hd (xs := ([rd l3 x8_1] : List Int)) (inner := [.int .i64 (rd l3 x8_1)]) (ok := fun _ => True) (okp := fun _ => True) ?hr ?hp (fun _ hk => hk) trivial (Below.refl _ _) (Nat.le_refl _) (by simp) ?_; (case hd => rfl); (case hg => rfl); (case hr => first | (go_simp; done) | (go_simp; rfl)); (case hp => exact (Reps.one (show Kd.M (Kd.int .i64) _ _ _ (rd l3 x8_1) [.int .i64 (rd l3 x8_1)] from rfl) (Reps.none _ _)))
                    intro v181 w13 ho14 hb hg_ hnew_
                    clear hg_ hnew_
                    (first | rw [← Ny180.out] at ho14 | (simp only [Int.reduceToNat] at ho14; rw [← Ny180.out] at ho14))
                    have HO182 := Aside0.mk (Kd.R_lower ho14 (below_size hb_))
                    replace BK172 := Aside0.mk (blk_below (g := gb172) (o := .cells #[.int .i64 a0_0, .slice A0_1 l0_1.length c0_1] 27 (0, 0)) (bk_ BK172.out) hb)
                    replace HB := Aside0.mk (below_step hb_ hb)
                    clear hb ho14
                    refine hK.out _ _ ⟨(blk_cell BK172.out 0).trans rfl, (blk_cell BK172.out 1).trans rfl, ((HB.out.cell (World.block_lt_of_cell? wb _ hw179_0)).trans hw179_0), ((HB.out.cell (World.block_lt_of_cell? wb _ hw186_0)).trans hw186_0)⟩ (fun hHeld => ?_)
                    clear hK K
                    refine no_ 27 ?_
                    refine on_ 1 20 #[Y,Y,Y,O,Y,Y,Y,Y,Y,O,Y,Y,Y,Y,O] (fun K hK => ?_)
                    refine Kd.R_lit_step (Kd.int .i64) _ 3 ?hg (N := 20) ?hd (xs := ([] : List Int)) (inner := []) (ok := fun _ => True) (okp := fun _ => True) ?hr ?hp (fun _ hk => hk) trivial (Below.refl _ _) (Nat.le_refl _) (by simp) ?_; (case hd => rfl); (case hg => rfl); (case hr => first | (go_simp; done) | (go_simp; rfl)); (case hp => exact (Reps.none _ _))
                    intro v174 w15 ho16 hb hg_ hnew_
                    clear hg_ hnew_
                    (first | rw [← Ny173.out] at ho16 | (simp only [Int.reduceToNat] at ho16; rw [← Ny173.out] at ho16))
                    have HO175 := Aside0.mk (Kd.R_lower (Kd.R_new' ho16 (Kd.R_lt (rR_ HO182.out))) (below_size hb_))
                    replace HO182 := Aside0.mk (Kd.R_elder' (rR_ HO182.out) (Kd.R_base ho16) hb)
                    replace BK172 := Aside0.mk (blk_below (g := gb172) (o := .cells #[.int .i64 a0_0, .slice A0_1 l0_1.length c0_1] 27 (0, 0)) (bk_ BK172.out) hb)
                    replace HB := Aside0.mk (below_step hb_ hb)
                    clear hb ho16
                    refine hK.out _ _ ⟨(blk_cell BK172.out 0).trans rfl, (blk_cell BK172.out 1).trans rfl, ((HB.out.cell (World.block_lt_of_cell? wb _ hw179_0)).trans hw179_0), ((HB.out.cell (World.block_lt_of_cell? wb _ hw186_0)).trans hw186_0)⟩ (fun hHeld => ?_)
                    clear hK K
                    refine no_ 20 ?_
                    refine on_ 3 22 #[Y,Y,Y,Y,Y,Y,Y,Y,Y,O,Y,Y,Y,Y,O] (fun K hK => ?_)
                    refine Kd.R_append_rows_step (Kd.int .i64) (w0 := wb) wb.heap.size (by rfl) (.tmp 20) (.tmp 21) 31 3 (.int .i64 0) 8 rfl Try.underlying31 info3 rfl (by decide) (by omega) v174 y173 l1 _ _ _ (fun k_ => some k_ ≠ (v181 : Value).ownBlock) (fun _ => False) rfl rfl ?aO ?aR (fun _ _ h => h) (fun _ h => h.elim) ?aF ?aB ?aS ?aL ?_
                    (case aR => exact cb_ HR1.out)
                    (case aB => exact hb_)
                    (case aF => exact (fun k_ hk => Kd.fresh' (Kd.R_lt (rR_ HO182.out)) k_ hk))
                    (case aO => exact (by (with_reducible repeat (first | apply Kd.R_alloc | apply Kd.R_drewN | apply Kd.R_drew)); exact Kd.R_mono HO175.out (fun _ hk => hk.2)))
                    (case aS => exact (below_size hb_))
                    (case aL => have := LMc7.out; omega)
                    intro v177 w17 ho hb hg hat
                    rw [← Ny176.out] at ho
                    have n0_ := Aside0.mk (blk_grown (g := gb172) (o := .cells #[.int .i64 a0_0, .slice A0_1 l0_1.length c0_1] 27 (0, 0)) (bk_ BK172.out) hg (Kd.R_ne HO175.out BK172.out (by decide)))
                    have n1_ := Aside0.mk (Kd.R_after (ok := (fun _ => True)) (rR_ HO182.out) hg hat)
                    have n2_ := Aside0.mk (hb)
                    have n3_ := Aside0.mk (ho)
                    clear BK172
                    clear HO182
                    clear HB
                    clear HO175
                    have BK172 := n0_
                    have HO182 := n1_
                    have HB := n2_
                    have HO178 := n3_
                    clear n0_ n1_ n2_ n3_
                    clear ho hb hg hat
                    refine hK.out _ _ ⟨(blk_cell BK172.out 0).trans rfl, (blk_cell BK172.out 1).trans rfl, ((HB.out.cell (World.block_lt_of_cell? wb _ hw179_0)).trans hw179_0), ((HB.out.cell (World.block_lt_of_cell? wb _ hw186_0)).trans hw186_0)⟩ (fun hHeld => ?_)
                    clear hK K
                    refine no_ 22 ?_
                    exact norm_ (by simp only [putAll, Act.put, List.setIfInBounds_toArray, List.set_cons_zero, List.set_cons_succ]) (hCont (v174, v177, v181) _ ⟨hHeld, (rR_ HO178.out), (by (with_reducible repeat (first | apply Kd.R_alloc | apply Kd.R_drewN | apply Kd.R_drew)); exact Kd.R_mono HO182.out (fun _ hk => hk.2)), (bk_ BK172.out), hb_⟩)
                rintro ⟨v174, v177, v181⟩ w18 ⟨hS_, h0_, h1_, h2_, h3_⟩
                have n0_ : Aside0 (Kd.R (Kd.int .i64) 3 w18 wb.heap.size (fun k_ => some k_ ≠ (v181 : Value).ownBlock) v177 y176) := ⟨h0_⟩
                have n1_ : Aside0 (Kd.R (Kd.int .i64) 3 w18 wb.heap.size (fun k_ => some k_ ≠ (v177 : Value).ownBlock) v181 y180) := ⟨h1_⟩
                have n2_ : Aside0 (w18.heap[gb172]? = some (.cells #[.int .i64 a0_0, .slice A0_1 l0_1.length c0_1] 27 (0, 0))) := ⟨h2_⟩
                have n3_ : Aside0 (Below wb.heap.size wb w18) := ⟨h3_⟩
                clear BK172
                clear HB
                clear h0_ h1_ h2_ h3_
                have HO178 := n0_
                have HO182 := n1_
                have BK172 := n2_
                have HB := n3_
                clear n0_ n1_ n2_ n3_
                have hHeld : w18.cell? ⟨gb172, 0, none⟩ = some (.int .i64 a0_0) ∧ w18.cell? ⟨gb172, 1, none⟩ = some (.slice A0_1 l0_1.length c0_1) ∧ w18.cell? (ad179.add (x8_1).toNat) = some (.int .i64 (rd l3 x8_1)) ∧ w18.cell? (ad179.add (x8_1).toNat) = some (.int .i64 (rd l3 x8_1)) := hS_
                obtain ⟨Ao20, co20, eo20⟩ := Kd.R_slice HO182.out
                (first | subst eo20 | (injection eo20 with f1_ f2_ f3_; have f4_ := f1_.symm; have f5_ := f3_.symm; clear f1_ f2_ f3_; subst f4_; subst f5_))
                refine norm_ (a' := ?_) ?_ ?_
                rotate_left
                · simp only [putAll, Act.put, List.setIfInBounds_toArray, List.set_cons_zero, List.set_cons_succ]
                  rfl
                refine on_ 9 28 #[Y,Y,Y,Y,Y,Y,Y,Y,Y,Y,Y,Y,Y,Y,O] (fun K hK => ?_)
                refine Kd.R_append_rows_step (Kd.int .i64) (w0 := wb) wb.heap.size (by rfl) (.tmp 22) (.tmp 27) 31 3 (.int .i64 0) 8 rfl Try.underlying31 info3 rfl (by decide) (by omega) v177 y176 y180 _ _ _ (fun k_ => some k_ ≠ (.slice Ao20 y180.length co20 : Value).ownBlock) (fun _ => False) rfl rfl ?aO ?aR (fun _ _ h => h) (fun _ h => h.elim) ?aF ?aB ?aS ?aL ?_
                (case aR => repeat (first | exact (Kd.R_reads' HO182.out).2.2 | (with_reducible refine Kd.C_alloc ?_ _) | (with_reducible refine Kd.C_drewN ?_ _) | (with_reducible refine Kd.C_drew ?_)))
                (case aB => exact hb_)
                (case aF => exact (fun k_ hk => Kd.fresh' (Kd.R_lt (rR_ HO182.out)) k_ hk))
                (case aO => exact (rR_ HO178.out))
                (case aS => exact (below_size hb_))
                (case aL => have := LMc9.out; omega)
                intro v184 w19 ho hb hg hat
                rw [← Ny183.out] at ho
                have n0_ := Aside0.mk (blk_grown (g := gb172) (o := .cells #[.int .i64 a0_0, .slice A0_1 l0_1.length c0_1] 27 (0, 0)) (bk_ BK172.out) hg (Kd.R_ne HO178.out BK172.out (by decide)))
                have n1_ := Aside0.mk (Kd.R_after (ok := (fun _ => True)) (by (with_reducible repeat (first | apply Kd.R_alloc | apply Kd.R_drewN | apply Kd.R_drew)); exact Kd.R_mono HO182.out (fun _ hk => ⟨trivial, hk⟩)) hg hat)
                have n2_ := Aside0.mk (hb)
                have n3_ := Aside0.mk (ho)
                clear BK172
                clear HO182
                clear HB
                clear HO178
                have BK172 := n0_
                have HO182 := n1_
                have HB := n2_
                have HO185 := n3_
                clear n0_ n1_ n2_ n3_
                clear ho hb hg hat
                obtain ⟨Ao21, co21, eo21⟩ := Kd.R_slice HO185.out
                (first | subst eo21 | (injection eo21 with f1_ f2_ f3_; have f4_ := f1_.symm; have f5_ := f3_.symm; clear f1_ f2_ f3_; subst f4_; subst f5_))
                refine hK.out _ _ ⟨(blk_cell BK172.out 0).trans rfl, (blk_cell BK172.out 1).trans rfl, ((HB.out.cell (World.block_lt_of_cell? wb _ hw179_0)).trans hw179_0), ((HB.out.cell (World.block_lt_of_cell? wb _ hw186_0)).trans hw186_0)⟩ (fun hHeld => ?_)
                clear hK K
                refine no_ 28 ?_
                refine on_ 14 33 #[Y,Y,Y,Y,Y,Y,Y,Y,Y,Y,Y,Y,Y,Y,Y] (fun K hK => ?_)
                refine goes_ Try.func59 (by kernel_rfl) rfl #[.agg #[.int .i64 a0_0, .slice A0_1 l0_1.length c0_1], .slice Ao21 y183.length co21, .int .i64 (rd l3 x8_1)] (by rfl) rfl rfl ar_ ?_
                with_reducible refine (ih k1 (by have := HK1.out; omega) a0_0 _ _ l0_1 _ _ y183 (rd l3 x8_1) true _ ?side1 ?side2 ?side3 ?side4 A10.out).mono ?_
                (case side1 => exact cb_ HR0_1.out)
                (case side2 => exact HC0_1.out)
                (case side3 => repeat (first | exact (Kd.R_reads' HO185.out).2.2 | (with_reducible refine Kd.C_alloc ?_ _) | (with_reducible refine Kd.C_drewN ?_ _) | (with_reducible refine Kd.C_drew ?_)))
                (case side4 => exact (Kd.R_reads' HO185.out).2.1)
                rintro e w22 ⟨rfl, hb⟩
                refine ⟨_, rfl, ?_⟩
                replace HO182 := Aside0.mk (Kd.R_below (rR_ HO182.out) hb)
                replace HO185 := Aside0.mk (Kd.R_below (rR_ HO185.out) hb)
                replace BK172 := Aside0.mk (blk_below (g := gb172) (o := .cells #[.int .i64 a0_0, .slice A0_1 l0_1.length c0_1] 27 (0, 0)) (bk_ BK172.out) hb)
                replace HB := Aside0.mk (below_step hb_ hb)
                (try clear hb)
                (try clear hb2)
                (try clear hk)
                (try clear hi)
                refine hK.out _ _ ⟨(blk_cell BK172.out 0).trans rfl, (blk_cell BK172.out 1).trans rfl, ((HB.out.cell (World.block_lt_of_cell? wb _ hw179_0)).trans hw179_0), ((HB.out.cell (World.block_lt_of_cell? wb _ hw186_0)).trans hw186_0)⟩ (fun hHeld => ?_)
                clear hK K
                refine no_ 33 ?_
                refine done_ (done_of HT_.out (by kernel_rfl)) ?_
                have p188 : 0 ≤ (x8_1 : Int) := of_decide_eq_true as_
                have q188 : x8_1 < (l3.length : Int) := of_decide_eq_true as_
                obtain ⟨ad188, e188, hx188_0⟩ := Kd.at_int HR3.out x8_1 p188 q188
                obtain rfl : ad179 = ad188 := (by injection e188)
                replace hx188_0 := (HB.out.cell (World.block_lt_of_cell? wb _ hx188_0)).trans hx188_0
                replace p188 := eq_true p188
                replace q188 := eq_true q188
                try go_wp2
                go_ret
                exact ⟨er_, below_step HB0.out hb_⟩
              · replace c11 := Bool.eq_false_iff.mpr c11
                subst c11
                have H1 : (spec_l8Best.l0 k1 l1 l3 (wrap64 (x8_1 + 1)) a0_0 l0_1) = some r := by rw [if_neg (show ¬ (false = true) by decide)] at H; exact H
                clear H
                have H := H1
                clear H1
                have H' := Aside0.mk H
                clear H
                try go_wp2
                replace BK172 := Aside0.mk (blk_drew BK172.out)
                replace HB := Aside0.mk (below_drew1 HB.out)
                have p179 : 0 ≤ (x8_1 : Int) := of_decide_eq_true as_
                have q179 : x8_1 < (l3.length : Int) := of_decide_eq_true as_
                obtain ⟨ad179, e179, hx179_0⟩ := Kd.at_int HR3.out x8_1 p179 q179
                have hw179_0 := hx179_0
                cases e179
                replace hx179_0 := (HB.out.cell (World.block_lt_of_cell? wb _ hx179_0)).trans hx179_0
                replace p179 := eq_true p179
                replace q179 := eq_true q179
                have p186 : 0 ≤ (x8_1 : Int) := of_decide_eq_true as_
                have q186 : x8_1 < (l3.length : Int) := of_decide_eq_true as_
                obtain ⟨ad186, e186, hx186_0⟩ := Kd.at_int HR3.out x8_1 p186 q186
                have hw186_0 := hx186_0
                obtain rfl : ad179 = ad186 := (by injection e186)
                replace hx186_0 := (HB.out.cell (World.block_lt_of_cell? wb _ hx186_0)).trans hx186_0
                replace p186 := eq_true p186
                replace q186 := eq_true q186
                refine start_ (n := 15) (S := fun w' => w'.cell? ⟨gb172, 0, none⟩ = some (.int .i64 a0_0) ∧ w'.cell? ⟨gb172, 1, none⟩ = some (.slice A0_1 l0_1.length c0_1) ∧ w'.cell? (ad179.add (x8_1).toNat) = some (.int .i64 (rd l3 x8_1)) ∧ w'.cell? (ad179.add (x8_1).toNat) = some (.int .i64 (rd l3 x8_1))) (ds := []) #[O,O,O,O,O,O,O,O,O,O,O,O,O,O,O] (by kernel_rfl) rfl rfl ⟨(blk_cell BK172.out 0).trans rfl, (blk_cell BK172.out 1).trans rfl, ((HB.out.cell (World.block_lt_of_cell? wb _ hw179_0)).trans hw179_0), ((HB.out.cell (World.block_lt_of_cell? wb _ hw186_0)).trans hw186_0)⟩ (fun hHeld => ?_); refine with_tabW spec_l8Best.tab5 spec_l8Best.bits5 (fun HT_ HW_ => ?_)
                generalize wr.drew = w23 at BK172 HB hx179_0 hx186_0 hHeld ⊢
                refine pu_ 2 21 #[O,O,Y,O,O,O,O,O,O,O,O,O,O,O,O] ?_
                refine pu_ 4 23 #[O,O,Y,O,Y,O,O,O,O,O,O,O,O,O,O] ?_
                refine pu_ 5 24 #[O,O,Y,O,Y,Y,O,O,O,O,O,O,O,O,O] ?_
                refine pu_ 6 25 #[O,O,Y,O,Y,Y,Y,O,O,O,O,O,O,O,O] ?_
                refine pu_ 10 29 #[O,O,Y,O,Y,Y,Y,O,O,O,Y,O,O,O,O] ?_
                refine pu_ 11 30 #[O,O,Y,O,Y,Y,Y,O,O,O,Y,Y,O,O,O] ?_
                refine pu_ 12 31 #[O,O,Y,O,Y,Y,Y,O,O,O,Y,Y,Y,O,O] ?_
                refine tk4_ 0 19 #[Y,O,Y,O,Y,Y,Y,O,O,O,Y,Y,Y,O,O] hHeld ?_
                refine tk4_ 7 26 #[Y,O,Y,O,Y,Y,Y,Y,O,O,Y,Y,Y,O,O] hHeld ?_
                refine tk4_ 13 32 #[Y,O,Y,O,Y,Y,Y,Y,O,O,Y,Y,Y,Y,O] hHeld ?_
                refine join_ (σ := Value × Value × Value) 2 #[Y,Y,Y,Y,Y,Y,Y,Y,Y,O,Y,Y,Y,Y,O] (fun s_ => [(20, s_.1), (22, s_.2.1), (27, s_.2.2)]) (fun s_ w' => (w'.cell? ⟨gb172, 0, none⟩ = some (.int .i64 a0_0) ∧ w'.cell? ⟨gb172, 1, none⟩ = some (.slice A0_1 l0_1.length c0_1) ∧ w'.cell? (ad179.add (x8_1).toNat) = some (.int .i64 (rd l3 x8_1)) ∧ w'.cell? (ad179.add (x8_1).toNat) = some (.int .i64 (rd l3 x8_1))) ∧ (Kd.R (Kd.int .i64) 3 w' wb.heap.size (fun k_ => some k_ ≠ (s_.2.2 : Value).ownBlock) s_.2.1 y176) ∧ (Kd.R (Kd.int .i64) 3 w' wb.heap.size (fun k_ => some k_ ≠ (s_.2.1 : Value).ownBlock) s_.2.2 y180) ∧ (w'.heap[gb172]? = some (.cells #[.int .i64 a0_0, .slice A0_1 l0_1.length c0_1] 27 (0, 0))) ∧ (Below wb.heap.size wb w')) ?_ ?_
                rotate_left
                · intro hCont
                  refine two_ (i := 1) (j := 8) (Ni := some 20) (Nj := some 27) #[Y,Y,Y,O,Y,Y,Y,Y,O,O,Y,Y,Y,Y,O] #[Y,O,Y,O,Y,Y,Y,Y,Y,O,Y,Y,Y,Y,O] rfl rfl rfl rfl (two_of HT_.out (by kernel_rfl)) (by decide) (by decide) (fun K hK => ?_) (fun K hK => ?_)
                  · skip
                    refine Kd.R_lit_step (Kd.int .i64) _ 3 ?hg (N := 20) ?hd (xs := ([] : List Int)) (inner := []) (ok := fun _ => True) (okp := fun _ => True) ?hr ?hp (fun _ hk => hk) trivial (Below.refl _ _) (Nat.le_refl _) (by simp) ?_; (case hd => rfl); (case hg => rfl); (case hr => first | (go_simp; done) | (go_simp; rfl)); (case hp => exact (Reps.none _ _))
                    intro v174 w24 ho25 hb hg_ hnew_
                    clear hg_ hnew_
                    (first | rw [← Ny173.out] at ho25 | (simp only [Int.reduceToNat] at ho25; rw [← Ny173.out] at ho25))
                    have HO175 := Aside0.mk (Kd.R_lower ho25 (below_size hb_))
                    replace BK172 := Aside0.mk (blk_below (g := gb172) (o := .cells #[.int .i64 a0_0, .slice A0_1 l0_1.length c0_1] 27 (0, 0)) (bk_ BK172.out) hb)
                    replace HB := Aside0.mk (below_step hb_ hb)
                    clear hb ho25
                    refine hK.out _ _ ⟨(blk_cell BK172.out 0).trans rfl, (blk_cell BK172.out 1).trans rfl, ((HB.out.cell (World.block_lt_of_cell? wb _ hw179_0)).trans hw179_0), ((HB.out.cell (World.block_lt_of_cell? wb _ hw186_0)).trans hw186_0)⟩ (fun hHeld => ?_)
                    clear hK K
                    refine no_ 20 ?_
                    refine two_ (i := 3) (j := 8) (Ni := some 22) (Nj := some 27) #[Y,Y,Y,Y,Y,Y,Y,Y,O,O,Y,Y,Y,Y,O] #[Y,Y,Y,O,Y,Y,Y,Y,Y,O,Y,Y,Y,Y,O] rfl rfl rfl rfl (two_of HT_.out (by kernel_rfl)) (by decide) (by decide) (fun K hK => ?_) (fun K hK => ?_)
                    · skip
                      refine Kd.R_append_rows_step (Kd.int .i64) (w0 := wb) wb.heap.size (by rfl) (.tmp 20) (.tmp 21) 31 3 (.int .i64 0) 8 rfl Try.underlying31 info3 rfl (by decide) (by omega) v174 y173 l1 _ _ _ (fun _ => True) (fun _ => False) rfl rfl ?aO ?aR (fun _ _ h => h) (fun _ h => h.elim) ?aF ?aB ?aS ?aL ?_
                      (case aR => exact cb_ HR1.out)
                      (case aB => exact hb_)
                      (case aF => exact (fun _ _ => trivial))
                      (case aO => exact (rR_ HO175.out))
                      (case aS => exact (below_size hb_))
                      (case aL => have := LMc7.out; omega)
                      intro v177 w26 ho hb hg hat
                      rw [← Ny176.out] at ho
                      have n0_ := Aside0.mk (blk_grown (g := gb172) (o := .cells #[.int .i64 a0_0, .slice A0_1 l0_1.length c0_1] 27 (0, 0)) (bk_ BK172.out) hg (Kd.R_ne HO175.out BK172.out (by decide)))
                      have n1_ := Aside0.mk (hb)
                      have n2_ := Aside0.mk (ho)
                      clear BK172
                      clear HB
                      clear HO175
                      have BK172 := n0_
                      have HB := n1_
                      have HO178 := n2_
                      clear n0_ n1_ n2_
                      clear ho hb hg hat
                      refine hK.out _ _ ⟨(blk_cell BK172.out 0).trans rfl, (blk_cell BK172.out 1).trans rfl, ((HB.out.cell (World.block_lt_of_cell? wb _ hw179_0)).trans hw179_0), ((HB.out.cell (World.block_lt_of_cell? wb _ hw186_0)).trans hw186_0)⟩ (fun hHeld => ?_)
                      clear hK K
                      refine no_ 22 ?_
                      refine on_ 8 27 #[Y,Y,Y,Y,Y,Y,Y,Y,Y,O,Y,Y,Y,Y,O] (fun K hK => ?_)
                      refine Kd.R_lit_step (Kd.int .i64) _ 3 ?hg (N := 27) ?hd (xs := ([rd l3 x8_1] : List Int)) (inner := [.int .i64 (rd l3 x8_1)]) (ok := fun _ => True) (okp := fun _ => True) ?hr ?hp (fun _ hk => hk) trivial (Below.refl _ _) (Nat.le_refl _) (by simp) ?_; (case hd => rfl); (case hg => rfl); (case hr => first | (go_simp; done) | (go_simp; rfl)); (case hp => exact (Reps.one (show Kd.M (Kd.int .i64) _ _ _ (rd l3 x8_1) [.int .i64 (rd l3 x8_1)] from rfl) (Reps.none _ _)))
                      intro v181 w27 ho28 hb hg_ hnew_
                      clear hg_ hnew_
                      (first | rw [← Ny180.out] at ho28 | (simp only [Int.reduceToNat] at ho28; rw [← Ny180.out] at ho28))
                      have HO182 := Aside0.mk (Kd.R_lower (Kd.R_new' ho28 (Kd.R_lt (rR_ HO178.out))) (below_size hb_))
                      replace HO178 := Aside0.mk (Kd.R_elder' (rR_ HO178.out) (Kd.R_base ho28) hb)
                      replace BK172 := Aside0.mk (blk_below (g := gb172) (o := .cells #[.int .i64 a0_0, .slice A0_1 l0_1.length c0_1] 27 (0, 0)) (bk_ BK172.out) hb)
                      replace HB := Aside0.mk (below_step hb_ hb)
                      clear hb ho28
                      refine hK.out _ _ ⟨(blk_cell BK172.out 0).trans rfl, (blk_cell BK172.out 1).trans rfl, ((HB.out.cell (World.block_lt_of_cell? wb _ hw179_0)).trans hw179_0), ((HB.out.cell (World.block_lt_of_cell? wb _ hw186_0)).trans hw186_0)⟩ (fun hHeld => ?_)
                      clear hK K
                      refine no_ 27 ?_
                      exact norm_ (by simp only [putAll, Act.put, List.setIfInBounds_toArray, List.set_cons_zero, List.set_cons_succ]) (hCont (v174, v177, v181) _ ⟨hHeld, (by (with_reducible repeat (first | apply Kd.R_alloc | apply Kd.R_drewN | apply Kd.R_drew)); exact Kd.R_mono HO178.out (fun _ hk => hk.2)), (by (with_reducible repeat (first | apply Kd.R_alloc | apply Kd.R_drewN | apply Kd.R_drew)); exact Kd.R_mono HO182.out (fun _ hk => hk.2)), (bk_ BK172.out), hb_⟩)
                    · skip
                      refine Kd.R_lit_step (Kd.int .i64) _ 3 ?hg (N := 27) ?hd (xs := ([rd l3 x8_1] : List Int)) (inner := [.int .i64 (rd l3 x8_1)]) (ok := fun _ => True) (okp := fun _ => True) ?hr ?hp (fun _ hk => hk) trivial (Below.refl _ _) (Nat.le_refl _) (by simp) ?_; (case hd => rfl); (case hg => rfl); (case hr => first | (go_simp; done) | (go_simp; rfl)); (case hp => exact (Reps.one (show Kd.M (Kd.int .i64) _ _ _ (rd l3 x8_1) [.int .i64 (rd l3 x8_1)] from rfl) (Reps.none _ _)))
                      intro v181 w26 ho27 hb hg_ hnew_
                      clear hg_ hnew_
                      (first | rw [← Ny180.out] at ho27 | (simp only [Int.reduceToNat] at ho27; rw [← Ny180.out] at ho27))
                      have HO182 := Aside0.mk (Kd.R_lower (Kd.R_new' ho27 (Kd.R_lt (rR_ HO175.out))) (below_size hb_))
                      replace HO175 := Aside0.mk (Kd.R_elder' (rR_ HO175.out) (Kd.R_base ho27) hb)
                      replace BK172 := Aside0.mk (blk_below (g := gb172) (o := .cells #[.int .i64 a0_0, .slice A0_1 l0_1.length c0_1] 27 (0, 0)) (bk_ BK172.out) hb)
                      replace HB := Aside0.mk (below_step hb_ hb)
                      clear hb ho27
                      refine hK.out _ _ ⟨(blk_cell BK172.out 0).trans rfl, (blk_cell BK172.out 1).trans rfl, ((HB.out.cell (World.block_lt_of_cell? wb _ hw179_0)).trans hw179_0), ((HB.out.cell (World.block_lt_of_cell? wb _ hw186_0)).trans hw186_0)⟩ (fun hHeld => ?_)
                      clear hK K
                      refine no_ 27 ?_
                      refine on_ 3 22 #[Y,Y,Y,Y,Y,Y,Y,Y,Y,O,Y,Y,Y,Y,O] (fun K hK => ?_)
                      refine Kd.R_append_rows_step (Kd.int .i64) (w0 := wb) wb.heap.size (by rfl) (.tmp 20) (.tmp 21) 31 3 (.int .i64 0) 8 rfl Try.underlying31 info3 rfl (by decide) (by omega) v174 y173 l1 _ _ _ (fun k_ => some k_ ≠ (v181 : Value).ownBlock) (fun _ => False) rfl rfl ?aO ?aR (fun _ _ h => h) (fun _ h => h.elim) ?aF ?aB ?aS ?aL ?_
                      (case aR => exact cb_ HR1.out)
                      (case aB => exact hb_)
                      (case aF => exact (fun k_ hk => Kd.fresh' (Kd.R_lt (rR_ HO182.out)) k_ hk))
                      (case aO => exact (by (with_reducible repeat (first | apply Kd.R_alloc | apply Kd.R_drewN | apply Kd.R_drew)); exact Kd.R_mono HO175.out (fun _ hk => hk.2)))
                      (case aS => exact (below_size hb_))
                      (case aL => have := LMc7.out; omega)
                      intro v177 w28 ho hb hg hat
                      rw [← Ny176.out] at ho
                      have n0_ := Aside0.mk (blk_grown (g := gb172) (o := .cells #[.int .i64 a0_0, .slice A0_1 l0_1.length c0_1] 27 (0, 0)) (bk_ BK172.out) hg (Kd.R_ne HO175.out BK172.out (by decide)))
                      have n1_ := Aside0.mk (Kd.R_after (ok := (fun _ => True)) (rR_ HO182.out) hg hat)
                      have n2_ := Aside0.mk (hb)
                      have n3_ := Aside0.mk (ho)
                      clear BK172
                      clear HO182
                      clear HB
                      clear HO175
                      have BK172 := n0_
                      have HO182 := n1_
                      have HB := n2_
                      have HO178 := n3_
                      clear n0_ n1_ n2_ n3_
                      clear ho hb hg hat
                      refine hK.out _ _ ⟨(blk_cell BK172.out 0).trans rfl, (blk_cell BK172.out 1).trans rfl, ((HB.out.cell (World.block_lt_of_cell? wb _ hw179_0)).trans hw179_0), ((HB.out.cell (World.block_lt_of_cell? wb _ hw186_0)).trans hw186_0)⟩ (fun hHeld => ?_)
                      clear hK K
                      refine no_ 22 ?_
                      exact norm_ (by simp only [putAll, Act.put, List.setIfInBounds_toArray, List.set_cons_zero, List.set_cons_succ]) (hCont (v174, v177, v181) _ ⟨hHeld, (rR_ HO178.out), (by (with_reducible repeat (first | apply Kd.R_alloc | apply Kd.R_drewN | apply Kd.R_drew)); exact Kd.R_mono HO182.out (fun _ hk => hk.2)), (bk_ BK172.out), hb_⟩)
                  · skip
                    refine Kd.R_lit_step (Kd.int .i64) _ 3 ?hg (N := 27) ?hd (xs := ([rd l3 x8_1] : List Int)) (inner := [.int .i64 (rd l3 x8_1)]) (ok := fun _ => True) (okp := fun _ => True) ?hr ?hp (fun _ hk => hk) trivial (Below.refl _ _) (Nat.le_refl _) (by simp) ?_; (case hd => rfl); (case hg => rfl); (case hr => first | (go_simp; done) | (go_simp; rfl)); (case hp => exact (Reps.one (show Kd.M (Kd.int .i64) _ _ _ (rd l3 x8_1) [.int .i64 (rd l3 x8_1)] from rfl) (Reps.none _ _)))
                    intro v181 w24 ho25 hb hg_ hnew_
                    clear hg_ hnew_
                    (first | rw [← Ny180.out] at ho25 | (simp only [Int.reduceToNat] at ho25; rw [← Ny180.out] at ho25))
                    have HO182 := Aside0.mk (Kd.R_lower ho25 (below_size hb_))
                    replace BK172 := Aside0.mk (blk_below (g := gb172) (o := .cells #[.int .i64 a0_0, .slice A0_1 l0_1.length c0_1] 27 (0, 0)) (bk_ BK172.out) hb)
                    replace HB := Aside0.mk (below_step hb_ hb)
                    clear hb ho25
                    refine hK.out _ _ ⟨(blk_cell BK172.out 0).trans rfl, (blk_cell BK172.out 1).trans rfl, ((HB.out.cell (World.block_lt_of_cell? wb _ hw179_0)).trans hw179_0), ((HB.out.cell (World.block_lt_of_cell? wb _ hw186_0)).trans hw186_0)⟩ (fun hHeld => ?_)
                    clear hK K
                    refine no_ 27 ?_
                    refine on_ 1 20 #[Y,Y,Y,O,Y,Y,Y,Y,Y,O,Y,Y,Y,Y,O] (fun K hK => ?_)
                    refine Kd.R_lit_step (Kd.int .i64) _ 3 ?hg (N := 20) ?hd (xs := ([] : List Int)) (inner := []) (ok := fun _ => True) (okp := fun _ => True) ?hr ?hp (fun _ hk => hk) trivial (Below.refl _ _) (Nat.le_refl _) (by simp) ?_; (case hd => rfl); (case hg => rfl); (case hr => first | (go_simp; done) | (go_simp; rfl)); (case hp => exact (Reps.none _ _))
                    intro v174 w26 ho27 hb hg_ hnew_
                    clear hg_ hnew_
                    (first | rw [← Ny173.out] at ho27 | (simp only [Int.reduceToNat] at ho27; rw [← Ny173.out] at ho27))
                    have HO175 := Aside0.mk (Kd.R_lower (Kd.R_new' ho27 (Kd.R_lt (rR_ HO182.out))) (below_size hb_))
                    replace HO182 := Aside0.mk (Kd.R_elder' (rR_ HO182.out) (Kd.R_base ho27) hb)
                    replace BK172 := Aside0.mk (blk_below (g := gb172) (o := .cells #[.int .i64 a0_0, .slice A0_1 l0_1.length c0_1] 27 (0, 0)) (bk_ BK172.out) hb)
                    replace HB := Aside0.mk (below_step hb_ hb)
                    clear hb ho27
                    refine hK.out _ _ ⟨(blk_cell BK172.out 0).trans rfl, (blk_cell BK172.out 1).trans rfl, ((HB.out.cell (World.block_lt_of_cell? wb _ hw179_0)).trans hw179_0), ((HB.out.cell (World.block_lt_of_cell? wb _ hw186_0)).trans hw186_0)⟩ (fun hHeld => ?_)
                    clear hK K
                    refine no_ 20 ?_
                    refine on_ 3 22 #[Y,Y,Y,Y,Y,Y,Y,Y,Y,O,Y,Y,Y,Y,O] (fun K hK => ?_)
                    refine Kd.R_append_rows_step (Kd.int .i64) (w0 := wb) wb.heap.size (by rfl) (.tmp 20) (.tmp 21) 31 3 (.int .i64 0) 8 rfl Try.underlying31 info3 rfl (by decide) (by omega) v174 y173 l1 _ _ _ (fun k_ => some k_ ≠ (v181 : Value).ownBlock) (fun _ => False) rfl rfl ?aO ?aR (fun _ _ h => h) (fun _ h => h.elim) ?aF ?aB ?aS ?aL ?_
                    (case aR => exact cb_ HR1.out)
                    (case aB => exact hb_)
                    (case aF => exact (fun k_ hk => Kd.fresh' (Kd.R_lt (rR_ HO182.out)) k_ hk))
                    (case aO => exact (by (with_reducible repeat (first | apply Kd.R_alloc | apply Kd.R_drewN | apply Kd.R_drew)); exact Kd.R_mono HO175.out (fun _ hk => hk.2)))
                    (case aS => exact (below_size hb_))
                    (case aL => have := LMc7.out; omega)
                    intro v177 w28 ho hb hg hat
                    rw [← Ny176.out] at ho
                    have n0_ := Aside0.mk (blk_grown (g := gb172) (o := .cells #[.int .i64 a0_0, .slice A0_1 l0_1.length c0_1] 27 (0, 0)) (bk_ BK172.out) hg (Kd.R_ne HO175.out BK172.out (by decide)))
                    have n1_ := Aside0.mk (Kd.R_after (ok := (fun _ => True)) (rR_ HO182.out) hg hat)
                    have n2_ := Aside0.mk (hb)
                    have n3_ := Aside0.mk (ho)
                    clear BK172
                    clear HO182
                    clear HB
                    clear HO175
                    have BK172 := n0_
                    have HO182 := n1_
                    have HB := n2_
                    have HO178 := n3_
                    clear n0_ n1_ n2_ n3_
                    clear ho hb hg hat
                    refine hK.out _ _ ⟨(blk_cell BK172.out 0).trans rfl, (blk_cell BK172.out 1).trans rfl, ((HB.out.cell (World.block_lt_of_cell? wb _ hw179_0)).trans hw179_0), ((HB.out.cell (World.block_lt_of_cell? wb _ hw186_0)).trans hw186_0)⟩ (fun hHeld => ?_)
                    clear hK K
                    refine no_ 22 ?_
                    exact norm_ (by simp only [putAll, Act.put, List.setIfInBounds_toArray, List.set_cons_zero, List.set_cons_succ]) (hCont (v174, v177, v181) _ ⟨hHeld, (rR_ HO178.out), (by (with_reducible repeat (first | apply Kd.R_alloc | apply Kd.R_drewN | apply Kd.R_drew)); exact Kd.R_mono HO182.out (fun _ hk => hk.2)), (bk_ BK172.out), hb_⟩)
                rintro ⟨v174, v177, v181⟩ w29 ⟨hS_, h0_, h1_, h2_, h3_⟩
                have n0_ : Aside0 (Kd.R (Kd.int .i64) 3 w29 wb.heap.size (fun k_ => some k_ ≠ (v181 : Value).ownBlock) v177 y176) := ⟨h0_⟩
                have n1_ : Aside0 (Kd.R (Kd.int .i64) 3 w29 wb.heap.size (fun k_ => some k_ ≠ (v177 : Value).ownBlock) v181 y180) := ⟨h1_⟩
                have n2_ : Aside0 (w29.heap[gb172]? = some (.cells #[.int .i64 a0_0, .slice A0_1 l0_1.length c0_1] 27 (0, 0))) := ⟨h2_⟩
                have n3_ : Aside0 (Below wb.heap.size wb w29) := ⟨h3_⟩
                clear BK172
                clear HB
                clear h0_ h1_ h2_ h3_
                have HO178 := n0_
                have HO182 := n1_
                have BK172 := n2_
                have HB := n3_
                clear n0_ n1_ n2_ n3_
                have hHeld : w29.cell? ⟨gb172, 0, none⟩ = some (.int .i64 a0_0) ∧ w29.cell? ⟨gb172, 1, none⟩ = some (.slice A0_1 l0_1.length c0_1) ∧ w29.cell? (ad179.add (x8_1).toNat) = some (.int .i64 (rd l3 x8_1)) ∧ w29.cell? (ad179.add (x8_1).toNat) = some (.int .i64 (rd l3 x8_1)) := hS_
                obtain ⟨Ao31, co31, eo31⟩ := Kd.R_slice HO182.out
                (first | subst eo31 | (injection eo31 with f1_ f2_ f3_; have f4_ := f1_.symm; have f5_ := f3_.symm; clear f1_ f2_ f3_; subst f4_; subst f5_))
                refine norm_ (a' := ?_) ?_ ?_
                rotate_left
                · simp only [putAll, Act.put, List.setIfInBounds_toArray, List.set_cons_zero, List.set_cons_succ]
                  rfl
                refine on_ 9 28 #[Y,Y,Y,Y,Y,Y,Y,Y,Y,Y,Y,Y,Y,Y,O] (fun K hK => ?_)
                refine Kd.R_append_rows_step (Kd.int .i64) (w0 := wb) wb.heap.size (by rfl) (.tmp 22) (.tmp 27) 31 3 (.int .i64 0) 8 rfl Try.underlying31 info3 rfl (by decide) (by omega) v177 y176 y180 _ _ _ (fun k_ => some k_ ≠ (.slice Ao31 y180.length co31 : Value).ownBlock) (fun _ => False) rfl rfl ?aO ?aR (fun _ _ h => h) (fun _ h => h.elim) ?aF ?aB ?aS ?aL ?_
                (case aR => repeat (first | exact (Kd.R_reads' HO182.out).2.2 | (with_reducible refine Kd.C_alloc ?_ _) | (with_reducible refine Kd.C_drewN ?_ _) | (with_reducible refine Kd.C_drew ?_)))
                (case aB => exact hb_)
                (case aF => exact (fun k_ hk => Kd.fresh' (Kd.R_lt (rR_ HO182.out)) k_ hk))
                (case aO => exact (rR_ HO178.out))
                (case aS => exact (below_size hb_))
                (case aL => have := LMc9.out; omega)
                intro v184 w30 ho hb hg hat
                rw [← Ny183.out] at ho
                have n0_ := Aside0.mk (blk_grown (g := gb172) (o := .cells #[.int .i64 a0_0, .slice A0_1 l0_1.length c0_1] 27 (0, 0)) (bk_ BK172.out) hg (Kd.R_ne HO178.out BK172.out (by decide)))
                have n1_ := Aside0.mk (Kd.R_after (ok := (fun _ => True)) (by (with_reducible repeat (first | apply Kd.R_alloc | apply Kd.R_drewN | apply Kd.R_drew)); exact Kd.R_mono HO182.out (fun _ hk => ⟨trivial, hk⟩)) hg hat)
                have n2_ := Aside0.mk (hb)
                have n3_ := Aside0.mk (ho)
                clear BK172
                clear HO182
                clear HB
                clear HO178
                have BK172 := n0_
                have HO182 := n1_
                have HB := n2_
                have HO185 := n3_
                clear n0_ n1_ n2_ n3_
                clear ho hb hg hat
                obtain ⟨Ao32, co32, eo32⟩ := Kd.R_slice HO185.out
                (first | subst eo32 | (injection eo32 with f1_ f2_ f3_; have f4_ := f1_.symm; have f5_ := f3_.symm; clear f1_ f2_ f3_; subst f4_; subst f5_))
                refine hK.out _ _ ⟨(blk_cell BK172.out 0).trans rfl, (blk_cell BK172.out 1).trans rfl, ((HB.out.cell (World.block_lt_of_cell? wb _ hw179_0)).trans hw179_0), ((HB.out.cell (World.block_lt_of_cell? wb _ hw186_0)).trans hw186_0)⟩ (fun hHeld => ?_)
                clear hK K
                refine no_ 28 ?_
                refine on_ 14 33 #[Y,Y,Y,Y,Y,Y,Y,Y,Y,Y,Y,Y,Y,Y,Y] (fun K hK => ?_)
                refine goes_ Try.func59 (by kernel_rfl) rfl #[.agg #[.int .i64 a0_0, .slice A0_1 l0_1.length c0_1], .slice Ao32 y183.length co32, .int .i64 (rd l3 x8_1)] (by rfl) rfl rfl ar_ ?_
                with_reducible refine (ih k1 (by have := HK1.out; omega) a0_0 _ _ l0_1 _ _ y183 (rd l3 x8_1) false _ ?side1 ?side2 ?side3 ?side4 A10.out).mono ?_
                (case side1 => exact cb_ HR0_1.out)
                (case side2 => exact HC0_1.out)
                (case side3 => repeat (first | exact (Kd.R_reads' HO185.out).2.2 | (with_reducible refine Kd.C_alloc ?_ _) | (with_reducible refine Kd.C_drewN ?_ _) | (with_reducible refine Kd.C_drew ?_)))
                (case side4 => exact (Kd.R_reads' HO185.out).2.1)
                rintro e w33 ⟨rfl, hb⟩
                refine ⟨_, rfl, ?_⟩
                replace HO182 := Aside0.mk (Kd.R_below (rR_ HO182.out) hb)
                replace HO185 := Aside0.mk (Kd.R_below (rR_ HO185.out) hb)
                replace BK172 := Aside0.mk (blk_below (g := gb172) (o := .cells #[.int .i64 a0_0, .slice A0_1 l0_1.length c0_1] 27 (0, 0)) (bk_ BK172.out) hb)
                replace HB := Aside0.mk (below_step hb_ hb)
                (try clear hb)
                (try clear hb2)
                (try clear hk)
                (try clear hi)
                refine hK.out _ _ ⟨(blk_cell BK172.out 0).trans rfl, (blk_cell BK172.out 1).trans rfl, ((HB.out.cell (World.block_lt_of_cell? wb _ hw179_0)).trans hw179_0), ((HB.out.cell (World.block_lt_of_cell? wb _ hw186_0)).trans hw186_0)⟩ (fun hHeld => ?_)
                clear hK K
                refine no_ 33 ?_
                refine done_ (done_of HT_.out (by kernel_rfl)) ?_
                try go_wp2
                go_roundg k1
                case measure => have := HK1.out; omega
                case rel => exact ⟨(wrap64 (x8_1 + 1)), sm_, H', ⟨by have := HK1.out; omega⟩, ⟨bk_ BK172.out⟩, ⟨hb_⟩⟩
            · rw [if_neg c9] at H
              exact absurd H (by simp)
          · rw [if_neg c8] at H
            exact absurd H (by simp)
        · rw [if_neg c7] at H
          exact absurd H (by simp)
      · rw [if_neg c6] at H
        have c6b0 : decide (x8_1 < (l3.length : Int)) = false := decide_eq_false c6
        clear c6
        obtain rfl := Option.some.inj H
        go_wp2
        go_ret
        exact ⟨er_, below_step HB0.out hb_⟩
theorem spec_l8.both (k : Nat) : (∀ (a0_0 : Int) (A0_1 : Option Addr) (c0_1 : Nat) (l0_1 : List (List Int)) (A1 : Option Addr) (c1 : Nat) (l1 : List Int) (a2 : Int) (r : Bool) (w : World) (hr0_1 : Kd.C (Kd.slice 3 (Kd.int .i64)) w A0_1 l0_1.length l0_1) (hc0_1 : l0_1.length ≤ c0_1) (hr1 : Kd.C (Kd.int .i64) w A1 l1.length l1) (hc1 : l1.length ≤ c1) (h : spec_l8Wins.f k a0_0 l0_1 l1 a2 = some r), Calls Try.prog 59 #[.agg #[.int .i64 a0_0, .slice A0_1 l0_1.length c0_1], .slice A1 l1.length c1, .int .i64 a2] w fun e w' => e = .returned (.bool r) ∧ Below w.heap.size w w') ∧ (∀ (a0_0 : Int) (A0_1 : Option Addr) (c0_1 : Nat) (l0_1 : List (List Int)) (A1 : Option Addr) (c1 : Nat) (l1 : List Int) (a2 : Int) (r : Int) (w : World) (hr0_1 : Kd.C (Kd.slice 3 (Kd.int .i64)) w A0_1 l0_1.length l0_1) (hc0_1 : l0_1.length ≤ c0_1) (hr1 : Kd.C (Kd.int .i64) w A1 l1.length l1) (hc1 : l1.length ≤ c1) (h : spec_l8Best.f k a0_0 l0_1 l1 a2 = some r), Calls Try.prog 64 #[.agg #[.int .i64 a0_0, .slice A0_1 l0_1.length c0_1], .slice A1 l1.length c1, .int .i64 a2] w fun e w' => e = .returned (.int .i64 r) ∧ Below w.heap.size w w') := by
  induction k using Nat.strongRecOn with
  | _ k ih => exact ⟨spec_l8Wins.step k (fun m hm => (ih m hm).2), spec_l8Best.step k (fun m hm => (ih m hm).1)⟩
theorem spec_l8Wins.calls (k : Nat) (a0_0 : Int) (A0_1 : Option Addr) (c0_1 : Nat) (l0_1 : List (List Int)) (A1 : Option Addr) (c1 : Nat) (l1 : List Int) (a2 : Int) (r : Bool) (w : World) (hr0_1 : Kd.C (Kd.slice 3 (Kd.int .i64)) w A0_1 l0_1.length l0_1) (hc0_1 : l0_1.length ≤ c0_1) (hr1 : Kd.C (Kd.int .i64) w A1 l1.length l1) (hc1 : l1.length ≤ c1) (h : spec_l8Wins.f k a0_0 l0_1 l1 a2 = some r) : Calls Try.prog 59 #[.agg #[.int .i64 a0_0, .slice A0_1 l0_1.length c0_1], .slice A1 l1.length c1, .int .i64 a2] w fun e w' => e = .returned (.bool r) ∧ Below w.heap.size w w' := (spec_l8.both k).1 a0_0 A0_1 c0_1 l0_1 A1 c1 l1 a2 r w hr0_1 hc0_1 hr1 hc1 h
theorem spec_l8Best.calls (k : Nat) (a0_0 : Int) (A0_1 : Option Addr) (c0_1 : Nat) (l0_1 : List (List Int)) (A1 : Option Addr) (c1 : Nat) (l1 : List Int) (a2 : Int) (r : Int) (w : World) (hr0_1 : Kd.C (Kd.slice 3 (Kd.int .i64)) w A0_1 l0_1.length l0_1) (hc0_1 : l0_1.length ≤ c0_1) (hr1 : Kd.C (Kd.int .i64) w A1 l1.length l1) (hc1 : l1.length ≤ c1) (h : spec_l8Best.f k a0_0 l0_1 l1 a2 = some r) : Calls Try.prog 64 #[.agg #[.int .i64 a0_0, .slice A0_1 l0_1.length c0_1], .slice A1 l1.length c1, .int .i64 a2] w fun e w' => e = .returned (.int .i64 r) ∧ Below w.heap.size w w' := (spec_l8.both k).2 a0_0 A0_1 c0_1 l0_1 A1 c1 l1 a2 r w hr0_1 hc0_1 hr1 hc1 h

end Go.Proofs.Ytdlobolnajcfnaa.PFnExactBestAnswer
