-- Written by a program of this session (hooks of mine on the print): Lean checks it.
import Derived.Test.YtdlobolnajcfnaaPFnDisputesx0
import Derived.Test.YtdlobolnajcfnaaPFnDisputesx5
namespace Go.Proofs.Ytdlobolnajcfnaa.PFnDisputes
open Go.RowKit Go.Proofs.YtdlobolnajcfnaaW.PrintWords Go.Proofs.YtdlobolnajcfnaaW.PrintLast Go.Proofs.YtdlobolnajcfnaaW.PrintMore
attribute [local go_sem] max2_int min2_int max_two min_two max_three min_three max_four min_four   -- for this text's walks alone
set_option linter.unusedVariables false
set_option linter.unusedSimpArgs false
set_option maxHeartbeats 8000000
set_option maxRecDepth 100000

/-! ### spec_l1Byte: function 117 -/
def spec_l1Byte.f (s0_0 : List Int) (s0_1 : Int) (s0_2 : Int) : Option (Int × Int × Int) := if s0_1 < (s0_0.length : Int) then (if 0 ≤ s0_1 then (some (Go.bits .and .i64 (wrap64 ((Go.bits .and .i64 (Go.bits .xor .i64 ((wrap64 ((wrap64 (s0_2 * 6364136223846793005)) + 1442695040888963407)) / 8589934592) ((wrap64 ((wrap64 (s0_2 * 6364136223846793005)) + 1442695040888963407)) / 140737488355328)) 255) + (wrap64 (rd s0_0 s0_1)))) 255, wrap64 (s0_1 + 1), wrap64 ((wrap64 (s0_2 * 6364136223846793005)) + 1442695040888963407))) else (none)) else (some (Go.bits .and .i64 (Go.bits .xor .i64 ((wrap64 ((wrap64 (s0_2 * 6364136223846793005)) + 1442695040888963407)) / 8589934592) ((wrap64 ((wrap64 (s0_2 * 6364136223846793005)) + 1442695040888963407)) / 140737488355328)) 255, s0_1, wrap64 ((wrap64 (s0_2 * 6364136223846793005)) + 1442695040888963407)))
theorem spec_l1Byte.calls (g : Nat) (s0_0 : List Int) (s0_1 : Int) (s0_2 : Int) (r1 : Int) (r2 : Int) (r3 : Int) (w0 w : World) (hI : IsS93 w0 w g s0_0 s0_1 s0_2) (hB : Below w0.heap.size w0 w) (h : spec_l1Byte.f s0_0 s0_1 s0_2 = some (r1, r2, r3)) :
  Calls Try.prog 117 #[.pointer (some ⟨g, 0, none⟩)] w fun e w' => e = .returned (.int .i64 r1) ∧ IsS93 w0 w' g s0_0 r2 r3 ∧ Below w0.heap.size w0 w' ∧ KeepBut w w' g none := by
 have HI0 := Aside0.mk hI
 have HK := Aside0.mk (KeepBut.refl w g none)
 have HL := Aside0.mk hB.size
 clear hI
 have HW0 := Aside0.mk hB.size
 have HB := Aside0.mk hB
 clear hB
 have H := h
 unfold spec_l1Byte.f at H
 clear h
 by_cases c2 : s0_1 < (s0_0.length : Int)
 rotate_left
 ·rw [if_neg c2] at H
  have c2b0 : decide (s0_1 < (s0_0.length : Int)) = false := decide_eq_false c2
  clear c2
  simp only [Option.some.injEq, Prod.mk.injEq] at H
  obtain ⟨rfl, rfl, rfl⟩ := H
  obtain ⟨ASz5_0, cSz5_0, HGz5, hgz5, HSz5_0⟩ := HI0.out
  have hcz5_0 := cellS93_0 HGz5
  have hcz5_1 := cellS93_1 HGz5
  have hcz5_2 := cellS93_2 HGz5
  have hfz5_1 := Zb HGz5 1
  have hfz5_2 := Zb HGz5 2
  clear HGz5 hgz5
  go_enter Try.func117, Try.ntmps117
  go_wp2
  repeat (go_quiet (fail); try go_wp2)
  go_ret
  exact ⟨er_, by exact qB_ HI0.out, by repeat (first | (with_reducible first | exact HB.out | apply Zk | apply Zi | apply Zj | refine Zc ?_ (IsS93.ge HI0.out)) | exact HB.out), by exact qA_ HK.out⟩
 rw [if_pos c2] at H
 have c2b0 : decide (s0_1 < (s0_0.length : Int)) = true := decide_eq_true c2
 clear c2
 by_cases c3 : 0 ≤ s0_1
 rotate_left
 ·rw [if_neg c3] at H
  exact absurd H (by simp)
 rw [if_pos c3] at H
 have c3b0 : decide (0 ≤ s0_1) = true := decide_eq_true c3
 clear c3
 simp only [Option.some.injEq, Prod.mk.injEq] at H
 obtain ⟨rfl, rfl, rfl⟩ := H
 obtain ⟨ASz4_0, cSz4_0, HGz4, hgz4, HSz4_0⟩ := HI0.out
 have hcz4_0 := cellS93_0 HGz4
 have hcz4_1 := cellS93_1 HGz4
 have hcz4_2 := cellS93_2 HGz4
 have hfz4_1 := Zb HGz4 1
 have hfz4_2 := Zb HGz4 2
 clear HGz4 hgz4
 have p210 : 0 ≤ (s0_1 : Int) := of_decide_eq_true as_
 have q210 : s0_1 < (s0_0.length : Int) := of_decide_eq_true as_
 obtain ⟨ad210, e210, hx210_0⟩ := Zx HSz4_0 s0_1 p210 q210
 cases e210
 have hn210_0 : ad210.block ≠ g := Nat.ne_of_lt (Nat.lt_of_lt_of_le (by have := World.block_lt_of_cell? _ _ hx210_0; first | rwa [add_block] at this | exact this) (IsS93.ge HI0.out))
 replace hx210_0 := pw_cell_below HB.out hx210_0
 replace hx210_0 := (cell_far (p := ⟨g, 2, none⟩) (by first | (rw [add_block]; exact hn210_0) | (show (Addr.add _ _).block ≠ _; rw [add_block]; exact hn210_0) | exact hn210_0) (.int .i64 (wrap64 ((wrap64 (s0_2 * 6364136223846793005)) + 1442695040888963407)))).trans hx210_0
 (try have hy210_0 := fun (n_ : Nat) => (show (((w.drewN n_).setCell ⟨g, 2, none⟩ (.int .i64 (wrap64 ((wrap64 (s0_2 * 6364136223846793005)) + 1442695040888963407))))).cell? _ = some _ from hx210_0))
 clear hn210_0
 replace p210 := eq_true p210
 replace q210 := eq_true q210
 go_enter Try.func117, Try.ntmps117
 go_wp2
 repeat (go_quiet (fail); try go_wp2)
 go_ret
 exact ⟨er_, by exact qB_ HI0.out, by repeat (first | (with_reducible first | exact HB.out | apply Zk | apply Zi | apply Zj | refine Zc ?_ (IsS93.ge HI0.out)) | exact HB.out), by exact qA_ HK.out⟩

/-! ### spec_l1Below: function 84 -/
def spec_l1Below.f (s0_0 : List Int) (s0_1 : Int) (s0_2 : Int) (a1 : Int) : Option (Int × Int × Int) := if a1 ≤ 0 then (some (0, s0_1, s0_2)) else (if a1 ≤ 256 then ((spec_l1Byte.f s0_0 s0_1 s0_2).bind fun bt211 => (if a1 = 0 then (none) else (some (Int.tmod bt211.1 a1, bt211.2.1, bt211.2.2)))) else ((spec_l1Byte.f s0_0 s0_1 s0_2).bind fun bt214 => ((spec_l1Byte.f s0_0 bt214.2.1 bt214.2.2).bind fun bt217 => ((spec_l1Byte.f s0_0 bt217.2.1 bt217.2.2).bind fun bt220 => (if a1 = 0 then (none) else (some (Int.tmod (wrap64 ((wrap64 ((wrap64 (bt214.1 * 65536)) + (wrap64 (bt217.1 * 256)))) + bt220.1)) a1, bt220.2.1, bt220.2.2)))))))
theorem spec_l1Below.calls (g : Nat) (s0_0 : List Int) (s0_1 : Int) (s0_2 : Int) (a1 : Int) (r1 : Int) (r2 : Int) (r3 : Int) (w0 w : World) (hI : IsS93 w0 w g s0_0 s0_1 s0_2) (hB : Below w0.heap.size w0 w) (h : spec_l1Below.f s0_0 s0_1 s0_2 a1 = some (r1, r2, r3)) :
  Calls Try.prog 84 #[.pointer (some ⟨g, 0, none⟩), .int .i64 a1] w fun e w' => e = .returned (.int .i64 r1) ∧ IsS93 w0 w' g s0_0 r2 r3 ∧ Below w0.heap.size w0 w' ∧ KeepBut w w' g none := by
 have HI0 := Aside0.mk hI
 have HK := Aside0.mk (KeepBut.refl w g none)
 have HL := Aside0.mk hB.size
 clear hI
 have HW0 := Aside0.mk hB.size
 have HB := Aside0.mk hB
 clear hB
 have H := h
 unfold spec_l1Below.f at H
 clear h
 by_cases c3 : a1 ≤ 0
 ·rw [if_pos c3] at H
  have c3b0 : decide (a1 ≤ 0) = true := decide_eq_true c3
  clear c3
  simp only [Option.some.injEq, Prod.mk.injEq] at H
  obtain ⟨rfl, rfl, rfl⟩ := H
  go_enter Try.func84, Try.ntmps84
  go_wp2
  go_ret
  exact ⟨er_, by exact qB_ HI0.out, by repeat (first | (with_reducible first | exact HB.out | apply Zk | apply Zi | apply Zj | refine Zc ?_ (IsS93.ge HI0.out)) | exact HB.out), by exact qA_ HK.out⟩
 rw [if_neg c3] at H
 have c3b0 : decide (a1 ≤ 0) = false := decide_eq_false c3
 clear c3
 by_cases c4 : a1 ≤ 256
 ·rw [if_pos c4] at H
  have c4b0 : decide (a1 ≤ 256) = true := decide_eq_true c4
  clear c4
  obtain ⟨⟨t211, t212, t213⟩, A5, H⟩ := bd_ H
  try dsimp only at H
  by_cases c6 : a1 = 0
  ·rw [if_pos c6] at H
   exact absurd H (by simp)
  rw [if_neg c6] at H
  have c6b0 : (a1 == 0) = false := beq_eq_false_iff_ne.mpr c6
  have c6b1 : (a1 != 0) = true := bne_iff_ne.mpr c6
  simp only [Option.some.injEq, Prod.mk.injEq] at H
  obtain ⟨rfl, rfl, rfl⟩ := H
  go_enter Try.func84, Try.ntmps84
  go_wp2_with (first | ((with_reducible refine Zl (f := 117) rfl ?_); refine ZI (some 13) rfl rfl Try.func117 (by kernel_rfl) rfl #[.pointer (some ⟨g, 0, none⟩)] rfl ar_ ?_; (with_reducible refine (spec_l1Byte.calls g s0_0 s0_1 s0_2 t211 t212 t213 w0 _ ?side1 ?side2 A5.out).mono ?_); (case side1 => exact qB_ HI0.out); (case side2 => repeat (first | (with_reducible first | exact HB.out | apply Zk | apply Zi | apply Zj | refine Zc ?_ (IsS93.ge HI0.out)) | exact HB.out)); rintro e w7 ⟨rfl, hi, hb, hk⟩; refine ⟨_, rfl, ?_⟩; replace HK := Aside0.mk (KeepBut.trans (qA_ HK.out) hk (.inl rfl)); replace HB := Aside0.mk (hb); replace HI0 := Aside0.mk (hi); (try clear hb); (try clear hk); (try clear hi)))
  go_ret
  exact ⟨er_, by exact qB_ HI0.out, by repeat (first | (with_reducible first | exact HB.out | apply Zk | apply Zi | apply Zj | refine Zc ?_ (IsS93.ge HI0.out)) | exact HB.out), by exact qA_ HK.out⟩
 rw [if_neg c4] at H
 have c4b0 : decide (a1 ≤ 256) = false := decide_eq_false c4
 clear c4
 obtain ⟨⟨t214, t215, t216⟩, A8, H⟩ := bd_ H
 try dsimp only at H
 obtain ⟨⟨t217, t218, t219⟩, A9, H⟩ := bd_ H
 try dsimp only at H
 obtain ⟨⟨t220, t221, t222⟩, A10, H⟩ := bd_ H
 try dsimp only at H
 by_cases c11 : a1 = 0
 ·rw [if_pos c11] at H
  exact absurd H (by simp)
 rw [if_neg c11] at H
 have c11b0 : (a1 == 0) = false := beq_eq_false_iff_ne.mpr c11
 have c11b1 : (a1 != 0) = true := bne_iff_ne.mpr c11
 simp only [Option.some.injEq, Prod.mk.injEq] at H
 obtain ⟨rfl, rfl, rfl⟩ := H
 go_enter Try.func84, Try.ntmps84
 go_wp2_with (first | ((with_reducible refine Zl (f := 117) rfl ?_); refine ZI (some 17) rfl rfl Try.func117 (by kernel_rfl) rfl #[.pointer (some ⟨g, 0, none⟩)] rfl ar_ ?_; (with_reducible refine (spec_l1Byte.calls g s0_0 s0_1 s0_2 t214 t215 t216 w0 _ ?side1 ?side2 A8.out).mono ?_); (case side1 => exact qB_ HI0.out); (case side2 => repeat (first | (with_reducible first | exact HB.out | apply Zk | apply Zi | apply Zj | refine Zc ?_ (IsS93.ge HI0.out)) | exact HB.out)); rintro e w12 ⟨rfl, hi, hb, hk⟩; refine ⟨_, rfl, ?_⟩; replace HK := Aside0.mk (KeepBut.trans (qA_ HK.out) hk (.inl rfl)); replace HB := Aside0.mk (hb); replace HI0 := Aside0.mk (hi); (try clear hb); (try clear hk); (try clear hi)) | ((with_reducible refine Zl (f := 117) rfl ?_); refine ZI (some 19) rfl rfl Try.func117 (by kernel_rfl) rfl #[.pointer (some ⟨g, 0, none⟩)] rfl ar_ ?_; (with_reducible refine (spec_l1Byte.calls g s0_0 t215 t216 t217 t218 t219 w0 _ ?side1 ?side2 A9.out).mono ?_); (case side1 => exact qB_ HI0.out); (case side2 => repeat (first | (with_reducible first | exact HB.out | apply Zk | apply Zi | apply Zj | refine Zc ?_ (IsS93.ge HI0.out)) | exact HB.out)); rintro e w13 ⟨rfl, hi, hb, hk⟩; refine ⟨_, rfl, ?_⟩; replace HK := Aside0.mk (KeepBut.trans (qA_ HK.out) hk (.inl rfl)); replace HB := Aside0.mk (hb); replace HI0 := Aside0.mk (hi); (try clear hb); (try clear hk); (try clear hi)) | ((with_reducible refine Zl (f := 117) rfl ?_); refine ZI (some 21) rfl rfl Try.func117 (by kernel_rfl) rfl #[.pointer (some ⟨g, 0, none⟩)] rfl ar_ ?_; (with_reducible refine (spec_l1Byte.calls g s0_0 t218 t219 t220 t221 t222 w0 _ ?side1 ?side2 A10.out).mono ?_); (case side1 => exact qB_ HI0.out); (case side2 => repeat (first | (with_reducible first | exact HB.out | apply Zk | apply Zi | apply Zj | refine Zc ?_ (IsS93.ge HI0.out)) | exact HB.out)); rintro e w14 ⟨rfl, hi, hb, hk⟩; refine ⟨_, rfl, ?_⟩; replace HK := Aside0.mk (KeepBut.trans (qA_ HK.out) hk (.inl rfl)); replace HB := Aside0.mk (hb); replace HI0 := Aside0.mk (hi); (try clear hb); (try clear hk); (try clear hi)))
 go_ret
 exact ⟨er_, by exact qB_ HI0.out, by repeat (first | (with_reducible first | exact HB.out | apply Zk | apply Zi | apply Zj | refine Zc ?_ (IsS93.ge HI0.out)) | exact HB.out), by exact qA_ HK.out⟩

/-! ### spec_l1Once: function 97 -/
def spec_l1Once.f (s0_0 : List Int) (s0_1 : Int) (s0_2 : Int) (a1 : Int) : Option (Bool × Int × Int) := (spec_l1Below.f s0_0 s0_1 s0_2 a1).bind fun bt223 => (some ((bt223.1 == 0), bt223.2.1, bt223.2.2))
theorem spec_l1Once.calls (g : Nat) (s0_0 : List Int) (s0_1 : Int) (s0_2 : Int) (a1 : Int) (r1 : Bool) (r2 : Int) (r3 : Int) (w0 w : World) (hI : IsS93 w0 w g s0_0 s0_1 s0_2) (hB : Below w0.heap.size w0 w) (h : spec_l1Once.f s0_0 s0_1 s0_2 a1 = some (r1, r2, r3)) :
  Calls Try.prog 97 #[.pointer (some ⟨g, 0, none⟩), .int .i64 a1] w fun e w' => e = .returned (.bool r1) ∧ IsS93 w0 w' g s0_0 r2 r3 ∧ Below w0.heap.size w0 w' ∧ KeepBut w w' g none := by
 have HI0 := Aside0.mk hI
 have HK := Aside0.mk (KeepBut.refl w g none)
 have HL := Aside0.mk hB.size
 clear hI
 have HW0 := Aside0.mk hB.size
 have HB := Aside0.mk hB
 clear hB
 have H := h
 unfold spec_l1Once.f at H
 clear h
 obtain ⟨⟨t223, t224, t225⟩, A3, H⟩ := bd_ H
 try dsimp only at H
 simp only [Option.some.injEq, Prod.mk.injEq] at H
 obtain ⟨rfl, rfl, rfl⟩ := H
 go_enter Try.func97, Try.ntmps97
 go_wp2_with (first | ((with_reducible refine Zl (f := 84) rfl ?_); refine ZI (some 7) rfl rfl Try.func84 (by kernel_rfl) rfl #[.pointer (some ⟨g, 0, none⟩), .int .i64 a1] rfl ar_ ?_; (with_reducible refine (spec_l1Below.calls g s0_0 s0_1 s0_2 a1 t223 t224 t225 w0 _ ?side1 ?side2 A3.out).mono ?_); (case side1 => exact qB_ HI0.out); (case side2 => repeat (first | (with_reducible first | exact HB.out | apply Zk | apply Zi | apply Zj | refine Zc ?_ (IsS93.ge HI0.out)) | exact HB.out)); rintro e w4 ⟨rfl, hi, hb, hk⟩; refine ⟨_, rfl, ?_⟩; replace HK := Aside0.mk (KeepBut.trans (qA_ HK.out) hk (.inl rfl)); replace HB := Aside0.mk (hb); replace HI0 := Aside0.mk (hi); (try clear hb); (try clear hk); (try clear hi)))
 go_ret
 exact ⟨er_, by exact qB_ HI0.out, by repeat (first | (with_reducible first | exact HB.out | apply Zk | apply Zi | apply Zj | refine Zc ?_ (IsS93.ge HI0.out)) | exact HB.out), by exact qA_ HK.out⟩

/-! ### spec_l1In: function 58 -/
def spec_l1In.f (a0 : Int) (a1 : Int) (a2 : Int) : Option (Bool) := if a0 ≥ a1 then (some (decide (a0 ≤ a2))) else (some false)
theorem spec_l1In.calls (a0 : Int) (a1 : Int) (a2 : Int) (r : Bool) (w : World) (h : spec_l1In.f a0 a1 a2 = some r) :
  Calls Try.prog 58 #[.int .i64 a0, .int .i64 a1, .int .i64 a2] w fun e w' => e = .returned (.bool r) ∧ Drawn0 w w' := by
 have H := h
 unfold spec_l1In.f at H
 clear h
 by_cases c4 : a0 ≥ a1
 ·rw [if_pos c4] at H
  have c4b0 : decide (a1 ≤ a0) = true := decide_eq_true c4
  clear c4
  obtain rfl := Option.some.inj H
  go_enter Try.func58, Try.ntmps58
  go_wp2
  go_ret
  exact ⟨sm_, dr_⟩
 rw [if_neg c4] at H
 have c4b0 : decide (a1 ≤ a0) = false := decide_eq_false c4
 clear c4
 obtain rfl := Option.some.inj H
 go_enter Try.func58, Try.ntmps58
 go_wp2
 go_ret
 exact ⟨sm_, dr_⟩

/-! ### spec_IsGraph: function 57 -/
mutual
def spec_IsGraph.l0 : Nat → Int → Int → List (List Int) → Option (Bool)
 | 0, _, _, _ => none
 | k + 1, x3, x227000, x227001 => if x3 < (x227001.length : Int) then (if 0 ≤ x3 then (if ((rd_L2 x227001 x3).length : Int) = 2 then (if 0 < ((rd_L2 x227001 x3).length : Int) then ((spec_l1In.f (rd (rd_L2 x227001 x3) 0) 0 (wrap64 (x227000 - 1))).bind fun t230 => (if t230 = true then (if 1 < ((rd_L2 x227001 x3).length : Int) then ((spec_l1In.f (rd (rd_L2 x227001 x3) 1) 0 (wrap64 (x227000 - 1))).bind fun t232 => (spec_IsGraph.j1 k x3 (rd_L2 x227001 x3) (!t232) x227000 x227001)) else (none)) else (spec_IsGraph.j1 k x3 (rd_L2 x227001 x3) true x227000 x227001))) else (none)) else (spec_IsGraph.j1 k x3 (rd_L2 x227001 x3) true x227000 x227001)) else (none)) else ((spec_l1In.f x227000 0 10).bind fun t227 => (some t227))
def spec_IsGraph.j1 : Nat → Int → List Int → Bool → Int → List (List Int) → Option (Bool)
 | 0, _, _, _, _, _ => none
 | k + 1, x3, x4, x40, x227000, x227001 => if x40 = true then (some false) else (if x3 > 0 then (if 0 ≤ (wrap64 (x3 - 1)) then (if (wrap64 (x3 - 1)) < (x227001.length : Int) then (if 0 < ((rd_L2 x227001 (wrap64 (x3 - 1))).length : Int) then (if 0 < (x4.length : Int) then (if (rd (rd_L2 x227001 (wrap64 (x3 - 1))) 0) > (rd x4 0) then (some false) else (if (rd (rd_L2 x227001 (wrap64 (x3 - 1))) 0) = (rd x4 0) then (if 1 < ((rd_L2 x227001 (wrap64 (x3 - 1))).length : Int) then (if 1 < (x4.length : Int) then (if (rd (rd_L2 x227001 (wrap64 (x3 - 1))) 1) ≥ (rd x4 1) then (some false) else (spec_IsGraph.l0 k (wrap64 (x3 + 1)) x227000 x227001)) else (none)) else (none)) else (spec_IsGraph.l0 k (wrap64 (x3 + 1)) x227000 x227001))) else (none)) else (none)) else (none)) else (none)) else (spec_IsGraph.l0 k (wrap64 (x3 + 1)) x227000 x227001))
end
def spec_IsGraph.f (k : Nat) (a0_0 : Int) (l0_1 : List (List Int)) : Option (Bool) := spec_IsGraph.l0 k 0 a0_0 l0_1
theorem spec_IsGraph.mono_l : ∀ k, (∀ y0 y1 y2, LeO (spec_IsGraph.l0 k y0 y1 y2) (spec_IsGraph.l0 (k + 1) y0 y1 y2)) ∧ (∀ y0 y1 y2 y3 y4, LeO (spec_IsGraph.j1 k y0 y1 y2 y3 y4) (spec_IsGraph.j1 (k + 1) y0 y1 y2 y3 y4))
 | 0 => ⟨fun _ _ _ r h => by simp [spec_IsGraph.l0] at h, fun _ _ _ _ _ r h => by simp [spec_IsGraph.j1] at h⟩
 | k + 1 => by
  obtain ⟨ih0, ih1⟩ := spec_IsGraph.mono_l k
  refine ⟨?_, ?_⟩
  ·intro y0 y1 y2
   unfold spec_IsGraph.l0
   repeat' with_reducible first | apply ih0 | apply ih1 | apply ZJ | apply Zn | refine Zu ?_ ?_ | refine Zo ?_ (fun _ => ?_)
  ·intro y0 y1 y2 y3 y4
   unfold spec_IsGraph.j1
   repeat' with_reducible first | apply ih0 | apply ih1 | apply ZJ | apply Zn | refine Zu ?_ ?_ | refine Zo ?_ (fun _ => ?_)
theorem spec_IsGraph.mono : ∀ a0 a1 k, LeO (spec_IsGraph.f k a0 a1) (spec_IsGraph.f (k + 1) a0 a1) := by
 intro a0 a1 k
 obtain ⟨ih0, ih1⟩ := spec_IsGraph.mono_l k
 unfold spec_IsGraph.f
 repeat' with_reducible first | apply ih0 | apply ih1 | apply ZJ | apply Zn | refine Zu ?_ ?_ | refine Zo ?_ (fun _ => ?_)
theorem spec_IsGraph.calls (k : Nat) (a0_0 : Int) (A0_1 : Option Addr) (c0_1 : Nat) (l0_1 : List (List Int)) (r : Bool) (w : World) (hr0_1 : Kd.C (Kd.slice 3 (Kd.int .i64)) w A0_1 l0_1.length l0_1) (hc0_1 : l0_1.length ≤ c0_1) (h : spec_IsGraph.f k a0_0 l0_1 = some r) :
  Calls Try.prog 57 #[.agg #[.int .i64 a0_0, .slice A0_1 l0_1.length c0_1]] w fun e w' => e = .returned (.bool r) ∧ Below w.heap.size w w' := by
 have hu27 := Try.underlying27
 have HR0_1 := Aside0.mk hr0_1
 have HC0_1 := Aside0.mk hc0_1
 clear hr0_1 hc0_1
 have HB := Aside0.mk (Below.refl w.heap.size w)
 have H := h
 unfold spec_IsGraph.f at H
 clear h
 have H' := Aside0.mk H
 clear H
 go_enter Try.func57, Try.ntmps57
 go_wp2_with (first | ((with_reducible refine ZA (N := 1) rfl ?_); refine ZC ?hg (N := 1) ?hd (cs := #[.int .i64 a0_0, .slice A0_1 l0_1.length c0_1]) (t := 27) ?hr ?_; (case hd => rfl); (case hg => rfl); (case hr => first | (go_simp; done) | (go_simp; rfl)); intro gb226 hg w2 hbox hb; have BK226 := Aside0.mk (hbox); have GW226 := Aside0.mk ((hz_ hg : w.heap.size ≤ gb226)); have GE226 := Aside0.mk ((hz_ hg : w.heap.size ≤ gb226)); replace HB := Aside0.mk (Zh hB_ hb); clear hb hbox hg))
 repeat (go_quiet (first | ((with_reducible refine ZA (N := 1) rfl ?_); refine ZC ?hg (N := 1) ?hd (cs := #[.int .i64 a0_0, .slice A0_1 l0_1.length c0_1]) (t := 27) ?hr ?_; (case hd => rfl); (case hg => rfl); (case hr => first | (go_simp; done) | (go_simp; rfl)); intro gb226 hg w2 hbox hb; have BK226 := Aside0.mk (hbox); have GW226 := Aside0.mk ((hz_ hg : w.heap.size ≤ gb226)); have GE226 := Aside0.mk ((hz_ hg : w.heap.size ≤ gb226)); replace HB := Aside0.mk (Zh hB_ hb); clear hb hbox hg)); try go_wp2_with (first | ((with_reducible refine ZA (N := 1) rfl ?_); refine ZC ?hg (N := 1) ?hd (cs := #[.int .i64 a0_0, .slice A0_1 l0_1.length c0_1]) (t := 27) ?hr ?_; (case hd => rfl); (case hg => rfl); (case hr => first | (go_simp; done) | (go_simp; rfl)); intro gb226 hg w2 hbox hb; have BK226 := Aside0.mk (hbox); have GW226 := Aside0.mk ((hz_ hg : w.heap.size ≤ gb226)); have GE226 := Aside0.mk ((hz_ hg : w.heap.size ≤ gb226)); replace HB := Aside0.mk (Zh hB_ hb); clear hb hbox hg)))
 go_loopg [3] k (fun kq v3 w' => ∃ (x3_1 : Int), v3 = .int .i64 x3_1 ∧ Aside0 (spec_IsGraph.l0 kq x3_1 a0_0 l0_1 = some r) ∧ Aside0 (kq ≤ k) ∧ Aside0 (w'.heap[gb226]? = some (.cells #[.int .i64 a0_0, (.slice A0_1 l0_1.length c0_1)] 27 (0, 0))) ∧ Aside0 (Below w.heap.size w w'))
 case atStart => exact ⟨(0), sm_, H', ⟨Nat.le_refl _⟩, ⟨bk_ BK226.out⟩, ⟨hB_⟩⟩
 case round =>
  clear H'
  try clear p2
  obtain ⟨x3_1, rfl, HA, HK1, BK226, HB⟩ := hrel
  cases gk with
  | zero => exact absurd HA.out (by simp [spec_IsGraph.l0])
  | succ k1 =>
   have H := HA.out
   clear HA
   simp only [spec_IsGraph.l0] at H
   by_cases c3 : x3_1 < (l0_1.length : Int)
   rotate_left
   ·rw [if_neg c3] at H
    have c3b0 : decide (x3_1 < (l0_1.length : Int)) = false := decide_eq_false c3
    clear c3
    obtain ⟨t227, A31, H⟩ := bd_ H
    try dsimp only at H
    obtain rfl := Option.some.inj H
    obtain ⟨hcz32_0, hcz32_1, hfz32_0, hfz32_1⟩ := c2_ BK226.out
    (try clear BK226)
    go_wp2_with (first | (go_at_call 58; (with_reducible refine (spec_l1In.calls a0_0 0 10 t227 _ A31.out).mono ?_); rintro e w' ⟨rfl, ⟨nd, rfl⟩⟩; (try first | exact ⟨rfl, _, World.drewN_drewN _ _ _⟩ | exact ⟨rfl, _, Eq.trans (World.drewN_drewN _ _ _) (congrArg (World.drewN _) (Nat.add_assoc _ _ _))⟩)))
    repeat (go_quiet (first | (go_at_call 58; (with_reducible refine (spec_l1In.calls a0_0 0 10 t227 _ A31.out).mono ?_); rintro e w' ⟨rfl, ⟨nd, rfl⟩⟩; (try first | exact ⟨rfl, _, World.drewN_drewN _ _ _⟩ | exact ⟨rfl, _, Eq.trans (World.drewN_drewN _ _ _) (congrArg (World.drewN _) (Nat.add_assoc _ _ _))⟩))); try go_wp2_with (first | (go_at_call 58; (with_reducible refine (spec_l1In.calls a0_0 0 10 t227 _ A31.out).mono ?_); rintro e w' ⟨rfl, ⟨nd, rfl⟩⟩; (try first | exact ⟨rfl, _, World.drewN_drewN _ _ _⟩ | exact ⟨rfl, _, Eq.trans (World.drewN_drewN _ _ _) (congrArg (World.drewN _) (Nat.add_assoc _ _ _))⟩))))
    go_ret
    exact ⟨er_, hB_⟩
   rw [if_pos c3] at H
   have c3b0 : decide (x3_1 < (l0_1.length : Int)) = true := decide_eq_true c3
   clear c3
   by_cases c4 : 0 ≤ x3_1
   rotate_left
   ·rw [if_neg c4] at H
    exact absurd H (by simp)
   rw [if_pos c4] at H
   have c4b0 : decide (0 ≤ x3_1) = true := decide_eq_true c4
   clear c4
   have HC5 := Aside0.mk H
   clear H
   obtain ⟨hcz6_0, hcz6_1, hfz6_0, hfz6_1⟩ := c2_ BK226.out
   have p228 : 0 ≤ (x3_1 : Int) := of_decide_eq_true as_
   have q228 : x3_1 < (l0_1.length : Int) := of_decide_eq_true as_
   obtain ⟨ad228, A228_0, c228_0, e228, hx228_0, hl228_0, hi228_0⟩ := at_L2 HR0_1.out x3_1 p228 q228
   cases e228
   replace hx228_0 := (HB.out.cell (World.block_lt_of_cell? w _ hx228_0)).trans hx228_0
   have HR228_0 := Aside0.mk hi228_0
   have HC228_0 := Aside0.mk hl228_0
   clear hi228_0 hl228_0
   replace p228 := eq_true p228
   replace q228 := eq_true q228
   go_upto_region 5 with (fail)
   repeat (go_quiet (fail); go_upto_region 5 with (fail))
   go_cut [40] (fun v40 wc => ∃ (kq : Nat) (x40_4 : Bool), v40 = .bool x40_4 ∧ Aside0 (spec_IsGraph.j1 kq x3_1 (rd_L2 l0_1 x3_1) x40_4 a0_0 l0_1 = some r) ∧ Aside0 (kq ≤ k1) ∧ Aside0 (wc.heap[gb226]? = some (.cells #[.int .i64 a0_0, (.slice (some ad228) l0_1.length c0_1)] 27 (0, 0))) ∧ Aside0 (Below w.heap.size w wc))
   case first =>
    have H := HC5.out
    clear HC5
    by_cases c7 : ((rd_L2 l0_1 x3_1).length : Int) = 2
    rotate_left
    ·rw [if_neg c7] at H
     have c7b0 : (((rd_L2 l0_1 x3_1).length : Int) == 2) = false := beq_eq_false_iff_ne.mpr c7
     have c7b1 : (((rd_L2 l0_1 x3_1).length : Int) != 2) = true := bne_iff_ne.mpr c7
     (first | rw [c7b0] | (simp only [i64_w, i32_w]; rw [c7b0]) | skip)
     have H' := Aside0.mk H
     clear H
     go_wp2
     repeat (go_quiet (fail); try go_wp2)
     go_meet
     case rel => exact ⟨_, (true), sm_, H', ⟨by have := HK1.out; first | omega | exact Nat.le_refl _⟩, ⟨bk_ BK226.out⟩, ⟨hB_⟩⟩
    rw [if_pos c7] at H
    have c7b0 : (((rd_L2 l0_1 x3_1).length : Int) == 2) = true := beq_iff_eq.mpr c7
    have c7b1 : (((rd_L2 l0_1 x3_1).length : Int) != 2) = false := bne_eq_false_iff_eq.mpr c7
    clear c7
    (first | rw [c7b0] | (simp only [i64_w, i32_w]; rw [c7b0]) | skip)
    by_cases c8 : 0 < ((rd_L2 l0_1 x3_1).length : Int)
    rotate_left
    ·rw [if_neg c8] at H
     exact absurd H (by simp)
    rw [if_pos c8] at H
    have c8b0 : decide (0 < ((rd_L2 l0_1 x3_1).length : Int)) = true := decide_eq_true c8
    have c8b1 : decide (0 < (rd_L2 l0_1 x3_1).length) = true := decide_eq_true (by omega)
    clear c8
    obtain ⟨t230, A9, H⟩ := bd_ H
    try dsimp only at H
    by_cases c10 : t230 = true
    rotate_left
    ·replace c10 := Bool.eq_false_iff.mpr c10
     subst c10
     rw [if_neg (show ¬ (false = true) by decide)] at H
     try dsimp only at H
     have H' := Aside0.mk H
     clear H
     have p229 : 0 ≤ (0 : Int) := (by omega)
     have q229 : 0 < ((rd_L2 l0_1 x3_1).length : Int) := of_decide_eq_true as_
     obtain ⟨ad229, e229, hx229_0⟩ := Zx HR228_0.out 0 p229 q229
     cases e229
     have qi229 : (0 < (rd_L2 l0_1 x3_1).length) = True := eq_true (by omega)
     (try rw [show ((0 : Int)).toNat = 0 from rfl] at hx229_0)
     (try rw [Addr.add_zero'] at hx229_0)
     replace hx229_0 := (HB.out.cell (World.block_lt_of_cell? w _ hx229_0)).trans hx229_0
     replace p229 := eq_true p229
     replace q229 := eq_true q229
     obtain ⟨hcz14_0, hcz14_1, hfz14_0, hfz14_1⟩ := c2_ BK226.out
     go_wp2_with (first | (go_at_call 58; refine calls_of_args (args' := #[.int .i64 (rd (rd_L2 l0_1 x3_1) 0), .int .i64 0, .int .i64 (wrap64 (a0_0 - 1))]) ?harg ?_; (case harg => first | rfl | (simp only [i64_w, i32_w]; rfl) | (simp only [i64_w, i32_w]; done)); (with_reducible refine (spec_l1In.calls (rd (rd_L2 l0_1 x3_1) 0) 0 (wrap64 (a0_0 - 1)) false _ A9.out).mono ?_); rintro e w' ⟨rfl, ⟨nd, rfl⟩⟩; (try first | exact ⟨rfl, _, World.drewN_drewN _ _ _⟩ | exact ⟨rfl, _, Eq.trans (World.drewN_drewN _ _ _) (congrArg (World.drewN _) (Nat.add_assoc _ _ _))⟩)))
     repeat (go_quiet (first | (go_at_call 58; refine calls_of_args (args' := #[.int .i64 (rd (rd_L2 l0_1 x3_1) 0), .int .i64 0, .int .i64 (wrap64 (a0_0 - 1))]) ?harg ?_; (case harg => first | rfl | (simp only [i64_w, i32_w]; rfl) | (simp only [i64_w, i32_w]; done)); (with_reducible refine (spec_l1In.calls (rd (rd_L2 l0_1 x3_1) 0) 0 (wrap64 (a0_0 - 1)) false _ A9.out).mono ?_); rintro e w' ⟨rfl, ⟨nd, rfl⟩⟩; (try first | exact ⟨rfl, _, World.drewN_drewN _ _ _⟩ | exact ⟨rfl, _, Eq.trans (World.drewN_drewN _ _ _) (congrArg (World.drewN _) (Nat.add_assoc _ _ _))⟩))); try go_wp2_with (first | (go_at_call 58; refine calls_of_args (args' := #[.int .i64 (rd (rd_L2 l0_1 x3_1) 0), .int .i64 0, .int .i64 (wrap64 (a0_0 - 1))]) ?harg ?_; (case harg => first | rfl | (simp only [i64_w, i32_w]; rfl) | (simp only [i64_w, i32_w]; done)); (with_reducible refine (spec_l1In.calls (rd (rd_L2 l0_1 x3_1) 0) 0 (wrap64 (a0_0 - 1)) false _ A9.out).mono ?_); rintro e w' ⟨rfl, ⟨nd, rfl⟩⟩; (try first | exact ⟨rfl, _, World.drewN_drewN _ _ _⟩ | exact ⟨rfl, _, Eq.trans (World.drewN_drewN _ _ _) (congrArg (World.drewN _) (Nat.add_assoc _ _ _))⟩))))
     go_meet
     case rel => exact ⟨_, (true), sm_, H', ⟨by have := HK1.out; first | omega | exact Nat.le_refl _⟩, ⟨bk_ BK226.out⟩, ⟨hB_⟩⟩
    subst c10
    rw [if_pos rfl] at H
    try dsimp only at H
    by_cases c11 : 1 < ((rd_L2 l0_1 x3_1).length : Int)
    rotate_left
    ·rw [if_neg c11] at H
     exact absurd H (by simp)
    rw [if_pos c11] at H
    have c11b0 : decide (1 < ((rd_L2 l0_1 x3_1).length : Int)) = true := decide_eq_true c11
    have c11b1 : decide (1 < (rd_L2 l0_1 x3_1).length) = true := decide_eq_true (by omega)
    clear c11
    obtain ⟨t232, A12, H⟩ := bd_ H
    try dsimp only at H
    have H' := Aside0.mk H
    clear H
    have p229 : 0 ≤ (0 : Int) := (by omega)
    have q229 : 0 < ((rd_L2 l0_1 x3_1).length : Int) := of_decide_eq_true as_
    obtain ⟨ad229, e229, hx229_0⟩ := Zx HR228_0.out 0 p229 q229
    cases e229
    have qi229 : (0 < (rd_L2 l0_1 x3_1).length) = True := eq_true (by omega)
    (try rw [show ((0 : Int)).toNat = 0 from rfl] at hx229_0)
    (try rw [Addr.add_zero'] at hx229_0)
    replace hx229_0 := (HB.out.cell (World.block_lt_of_cell? w _ hx229_0)).trans hx229_0
    replace p229 := eq_true p229
    replace q229 := eq_true q229
    obtain ⟨hcz13_0, hcz13_1, hfz13_0, hfz13_1⟩ := c2_ BK226.out
    go_wp2_with (first | (go_at_call 58; refine calls_of_args (args' := #[.int .i64 (rd (rd_L2 l0_1 x3_1) 0), .int .i64 0, .int .i64 (wrap64 (a0_0 - 1))]) ?harg ?_; (case harg => first | rfl | (simp only [i64_w, i32_w]; rfl) | (simp only [i64_w, i32_w]; done)); (with_reducible refine (spec_l1In.calls (rd (rd_L2 l0_1 x3_1) 0) 0 (wrap64 (a0_0 - 1)) true _ A9.out).mono ?_); rintro e w' ⟨rfl, ⟨nd, rfl⟩⟩; (try first | exact ⟨rfl, _, World.drewN_drewN _ _ _⟩ | exact ⟨rfl, _, Eq.trans (World.drewN_drewN _ _ _) (congrArg (World.drewN _) (Nat.add_assoc _ _ _))⟩); have p231 : 0 ≤ (1 : Int) := (by omega); have q231 : 1 < ((rd_L2 l0_1 x3_1).length : Int) := of_decide_eq_true as_; obtain ⟨ad231, e231, hx231_0⟩ := Zx HR228_0.out 1 p231 q231; obtain rfl : ad229 = ad231 := (by injection e231); (try simp only [show (1 : Int).toNat = 1 from rfl, Nat.reduceMul, Nat.reduceEqDiff, Go.Addr.add, ↓reduceIte] at hx231_0); have qi231 : (1 < (rd_L2 l0_1 x3_1).length) = True := eq_true (by omega); (try rw [show ((1 : Int)).toNat = 1 from rfl] at hx231_0); replace hx231_0 := (HB.out.cell (World.block_lt_of_cell? w _ hx231_0)).trans hx231_0; replace p231 := eq_true p231; replace q231 := eq_true q231) | (go_at_call 58; refine calls_of_args (args' := #[.int .i64 (rd (rd_L2 l0_1 x3_1) 1), .int .i64 0, .int .i64 (wrap64 (a0_0 - 1))]) ?harg ?_; (case harg => first | rfl | (simp only [i64_w, i32_w]; rfl) | (simp only [i64_w, i32_w]; done)); (with_reducible refine (spec_l1In.calls (rd (rd_L2 l0_1 x3_1) 1) 0 (wrap64 (a0_0 - 1)) t232 _ A12.out).mono ?_); rintro e w' ⟨rfl, ⟨nd, rfl⟩⟩; (try first | exact ⟨rfl, _, World.drewN_drewN _ _ _⟩ | exact ⟨rfl, _, Eq.trans (World.drewN_drewN _ _ _) (congrArg (World.drewN _) (Nat.add_assoc _ _ _))⟩)))
    repeat (go_quiet (first | (go_at_call 58; refine calls_of_args (args' := #[.int .i64 (rd (rd_L2 l0_1 x3_1) 0), .int .i64 0, .int .i64 (wrap64 (a0_0 - 1))]) ?harg ?_; (case harg => first | rfl | (simp only [i64_w, i32_w]; rfl) | (simp only [i64_w, i32_w]; done)); (with_reducible refine (spec_l1In.calls (rd (rd_L2 l0_1 x3_1) 0) 0 (wrap64 (a0_0 - 1)) true _ A9.out).mono ?_); rintro e w' ⟨rfl, ⟨nd, rfl⟩⟩; (try first | exact ⟨rfl, _, World.drewN_drewN _ _ _⟩ | exact ⟨rfl, _, Eq.trans (World.drewN_drewN _ _ _) (congrArg (World.drewN _) (Nat.add_assoc _ _ _))⟩); have p231 : 0 ≤ (1 : Int) := (by omega); have q231 : 1 < ((rd_L2 l0_1 x3_1).length : Int) := of_decide_eq_true as_; obtain ⟨ad231, e231, hx231_0⟩ := Zx HR228_0.out 1 p231 q231; obtain rfl : ad229 = ad231 := (by injection e231); (try simp only [show (1 : Int).toNat = 1 from rfl, Nat.reduceMul, Nat.reduceEqDiff, Go.Addr.add, ↓reduceIte] at hx231_0); have qi231 : (1 < (rd_L2 l0_1 x3_1).length) = True := eq_true (by omega); (try rw [show ((1 : Int)).toNat = 1 from rfl] at hx231_0); replace hx231_0 := (HB.out.cell (World.block_lt_of_cell? w _ hx231_0)).trans hx231_0; replace p231 := eq_true p231; replace q231 := eq_true q231) | (go_at_call 58; refine calls_of_args (args' := #[.int .i64 (rd (rd_L2 l0_1 x3_1) 1), .int .i64 0, .int .i64 (wrap64 (a0_0 - 1))]) ?harg ?_; (case harg => first | rfl | (simp only [i64_w, i32_w]; rfl) | (simp only [i64_w, i32_w]; done)); (with_reducible refine (spec_l1In.calls (rd (rd_L2 l0_1 x3_1) 1) 0 (wrap64 (a0_0 - 1)) t232 _ A12.out).mono ?_); rintro e w' ⟨rfl, ⟨nd, rfl⟩⟩; (try first | exact ⟨rfl, _, World.drewN_drewN _ _ _⟩ | exact ⟨rfl, _, Eq.trans (World.drewN_drewN _ _ _) (congrArg (World.drewN _) (Nat.add_assoc _ _ _))⟩))); try go_wp2_with (first | (go_at_call 58; refine calls_of_args (args' := #[.int .i64 (rd (rd_L2 l0_1 x3_1) 0), .int .i64 0, .int .i64 (wrap64 (a0_0 - 1))]) ?harg ?_; (case harg => first | rfl | (simp only [i64_w, i32_w]; rfl) | (simp only [i64_w, i32_w]; done)); (with_reducible refine (spec_l1In.calls (rd (rd_L2 l0_1 x3_1) 0) 0 (wrap64 (a0_0 - 1)) true _ A9.out).mono ?_); rintro e w' ⟨rfl, ⟨nd, rfl⟩⟩; (try first | exact ⟨rfl, _, World.drewN_drewN _ _ _⟩ | exact ⟨rfl, _, Eq.trans (World.drewN_drewN _ _ _) (congrArg (World.drewN _) (Nat.add_assoc _ _ _))⟩); have p231 : 0 ≤ (1 : Int) := (by omega); have q231 : 1 < ((rd_L2 l0_1 x3_1).length : Int) := of_decide_eq_true as_; obtain ⟨ad231, e231, hx231_0⟩ := Zx HR228_0.out 1 p231 q231; obtain rfl : ad229 = ad231 := (by injection e231); (try simp only [show (1 : Int).toNat = 1 from rfl, Nat.reduceMul, Nat.reduceEqDiff, Go.Addr.add, ↓reduceIte] at hx231_0); have qi231 : (1 < (rd_L2 l0_1 x3_1).length) = True := eq_true (by omega); (try rw [show ((1 : Int)).toNat = 1 from rfl] at hx231_0); replace hx231_0 := (HB.out.cell (World.block_lt_of_cell? w _ hx231_0)).trans hx231_0; replace p231 := eq_true p231; replace q231 := eq_true q231) | (go_at_call 58; refine calls_of_args (args' := #[.int .i64 (rd (rd_L2 l0_1 x3_1) 1), .int .i64 0, .int .i64 (wrap64 (a0_0 - 1))]) ?harg ?_; (case harg => first | rfl | (simp only [i64_w, i32_w]; rfl) | (simp only [i64_w, i32_w]; done)); (with_reducible refine (spec_l1In.calls (rd (rd_L2 l0_1 x3_1) 1) 0 (wrap64 (a0_0 - 1)) t232 _ A12.out).mono ?_); rintro e w' ⟨rfl, ⟨nd, rfl⟩⟩; (try first | exact ⟨rfl, _, World.drewN_drewN _ _ _⟩ | exact ⟨rfl, _, Eq.trans (World.drewN_drewN _ _ _) (congrArg (World.drewN _) (Nat.add_assoc _ _ _))⟩))))
    go_meet
    case rel => exact ⟨_, (!t232), sm_, H', ⟨by have := HK1.out; first | omega | exact Nat.le_refl _⟩, ⟨bk_ BK226.out⟩, ⟨hB_⟩⟩
   case rest =>
    clear HC5
    try clear c1
    try clear c2
    try clear p2
    try clear q2
    try clear hx2
    try clear qi2
    try clear c3
    try clear c3b0
    try clear c4
    try clear c4b0
    try clear c5
    try clear p6
    try clear c7
    try clear c7b0
    try clear c7b1
    try clear c8
    try clear c8b0
    try clear c8b1
    try clear c10
    try clear c11
    try clear c11b0
    try clear c11b1
    try clear hcz13_0
    try clear hcz13_1
    try clear hcz14_0
    try clear hcz14_1
    try clear hcz6_0
    try clear hcz6_1
    try clear hfz13_0
    try clear hfz13_1
    try clear hfz14_0
    try clear hfz14_1
    try clear hfz6_0
    try clear hfz6_1
    try clear hx228_0
    try clear hx229_0
    try clear hx231_0
    try clear p2
    try clear p228
    try clear p229
    try clear p231
    try clear q228
    try clear q229
    try clear q231
    obtain ⟨kq, x40_4, rfl, HA, HJ4, BK226, HB⟩ := hcut
    cases kq with
    | zero => exact absurd HA.out (by simp [spec_IsGraph.j1])
    | succ kj4 =>
     have H := HA.out
     clear HA
     simp only [spec_IsGraph.j1] at H
     by_cases c15 : x40_4 = true
     ·subst c15
      rw [if_pos rfl] at H
      try dsimp only at H
      obtain rfl := Option.some.inj H
      go_wp2
      repeat (go_quiet (fail); try go_wp2)
      go_ret
      exact ⟨er_, hB_⟩
     replace c15 := Bool.eq_false_iff.mpr c15
     subst c15
     rw [if_neg (show ¬ (false = true) by decide)] at H
     try dsimp only at H
     by_cases c16 : x3_1 > 0
     rotate_left
     ·rw [if_neg c16] at H
      have c16b0 : decide (0 < x3_1) = false := decide_eq_false c16
      clear c16
      have H' := Aside0.mk H
      clear H
      go_wp2
      repeat (go_quiet (fail); try go_wp2)
      go_roundg kj4
      case measure => have := HK1.out; have := HJ4.out; omega
      case rel => exact ⟨(wrap64 (x3_1 + 1)), sm_, H', ⟨by have := HK1.out; have := HJ4.out; omega⟩, ⟨bk_ BK226.out⟩, ⟨hB_⟩⟩
     rw [if_pos c16] at H
     have c16b0 : decide (0 < x3_1) = true := decide_eq_true c16
     clear c16
     obtain ⟨ji17, hji17⟩ : ∃ j_ : Int, (wrap64 (x3_1 - 1)) = j_ := ⟨_, rfl⟩
     replace H : (if 0 ≤ (ji17) then (if (ji17) < (l0_1.length : Int) then (if 0 < ((rd_L2 l0_1 (ji17)).length : Int) then (if 0 < ((rd_L2 l0_1 x3_1).length : Int) then (if (rd (rd_L2 l0_1 (ji17)) 0) > (rd (rd_L2 l0_1 x3_1) 0) then (some false) else (if (rd (rd_L2 l0_1 (ji17)) 0) = (rd (rd_L2 l0_1 x3_1) 0) then (if 1 < ((rd_L2 l0_1 (ji17)).length : Int) then (if 1 < ((rd_L2 l0_1 x3_1).length : Int) then (if (rd (rd_L2 l0_1 (ji17)) 1) ≥ (rd (rd_L2 l0_1 x3_1) 1) then (some false) else (spec_IsGraph.l0 kj4 (wrap64 (x3_1 + 1)) a0_0 l0_1)) else (none)) else (none)) else (spec_IsGraph.l0 kj4 (wrap64 (x3_1 + 1)) a0_0 l0_1))) else (none)) else (none)) else (none)) else (none)) = some r := by first | (rw [hji17] at H; exact H) | (simp only [hji17] at H ⊢; exact H)
     have hji17w : (IntKind.i64.wrap (x3_1 - 1)) = ji17 := (i64_w _).trans hji17
     by_cases c18 : 0 ≤ (ji17)
     rotate_left
     ·rw [if_neg c18] at H
      exact absurd H (by simp)
     rw [if_pos c18] at H
     have c18b0 : decide (0 ≤ (ji17)) = true := decide_eq_true c18
     clear c18
     by_cases c19 : (ji17) < (l0_1.length : Int)
     rotate_left
     ·rw [if_neg c19] at H
      exact absurd H (by simp)
     rw [if_pos c19] at H
     have c19b0 : decide ((ji17) < (l0_1.length : Int)) = true := decide_eq_true c19
     clear c19
     by_cases c20 : 0 < ((rd_L2 l0_1 (ji17)).length : Int)
     rotate_left
     ·rw [if_neg c20] at H
      exact absurd H (by simp)
     rw [if_pos c20] at H
     have c20b0 : decide (0 < ((rd_L2 l0_1 (ji17)).length : Int)) = true := decide_eq_true c20
     have c20b1 : decide (0 < (rd_L2 l0_1 (ji17)).length) = true := decide_eq_true (by omega)
     clear c20
     by_cases c21 : 0 < ((rd_L2 l0_1 x3_1).length : Int)
     rotate_left
     ·rw [if_neg c21] at H
      exact absurd H (by simp)
     rw [if_pos c21] at H
     have c21b0 : decide (0 < ((rd_L2 l0_1 x3_1).length : Int)) = true := decide_eq_true c21
     have c21b1 : decide (0 < (rd_L2 l0_1 x3_1).length) = true := decide_eq_true (by omega)
     clear c21
     by_cases c22 : (rd (rd_L2 l0_1 (ji17)) 0) > (rd (rd_L2 l0_1 x3_1) 0)
     ·rw [if_pos c22] at H
      have c22b0 : decide ((rd (rd_L2 l0_1 x3_1) 0) < (rd (rd_L2 l0_1 (ji17)) 0)) = true := decide_eq_true c22
      clear c22
      obtain rfl := Option.some.inj H
      obtain ⟨hcz23_0, hcz23_1, hfz23_0, hfz23_1⟩ := c2_ BK226.out
      have p233 : 0 ≤ ((ji17) : Int) := of_decide_eq_true as_
      have q233 : (ji17) < (l0_1.length : Int) := of_decide_eq_true as_
      obtain ⟨ad233, A233_0, c233_0, e233, hx233_0, hl233_0, hi233_0⟩ := at_L2 HR0_1.out (ji17) p233 q233
      obtain rfl : ad228 = ad233 := (by injection e233)
      replace hx233_0 := (HB.out.cell (World.block_lt_of_cell? w _ hx233_0)).trans hx233_0
      have HR233_0 := Aside0.mk hi233_0
      have HC233_0 := Aside0.mk hl233_0
      clear hi233_0 hl233_0
      replace p233 := eq_true p233
      replace q233 := eq_true q233
      have p234 : 0 ≤ (0 : Int) := (by omega)
      have q234 : 0 < ((rd_L2 l0_1 (ji17)).length : Int) := of_decide_eq_true as_
      obtain ⟨ad234, e234, hx234_0⟩ := Zx HR233_0.out 0 p234 q234
      cases e234
      have qi234 : (0 < (rd_L2 l0_1 (ji17)).length) = True := eq_true (by omega)
      (try rw [show ((0 : Int)).toNat = 0 from rfl] at hx234_0)
      (try rw [Addr.add_zero'] at hx234_0)
      replace hx234_0 := (HB.out.cell (World.block_lt_of_cell? w _ hx234_0)).trans hx234_0
      replace p234 := eq_true p234
      replace q234 := eq_true q234
      have p235 : 0 ≤ (0 : Int) := (by omega)
      have q235 : 0 < ((rd_L2 l0_1 x3_1).length : Int) := of_decide_eq_true as_
      obtain ⟨ad235, e235, hx235_0⟩ := Zx HR228_0.out 0 p235 q235
      cases e235
      have qi235 : (0 < (rd_L2 l0_1 x3_1).length) = True := eq_true (by omega)
      (try rw [show ((0 : Int)).toNat = 0 from rfl] at hx235_0)
      (try rw [Addr.add_zero'] at hx235_0)
      replace hx235_0 := (HB.out.cell (World.block_lt_of_cell? w _ hx235_0)).trans hx235_0
      replace p235 := eq_true p235
      replace q235 := eq_true q235
      go_wp2
      repeat (go_quiet (fail); try go_wp2)
      go_ret
      exact ⟨by first | rfl | (simp [errW_none, errW_some] <;> rfl) | (simp only [← hji17]; first | rfl | (simp [errW_none, errW_some] <;> rfl)) | (simp [*, errW_none, errW_some] <;> rfl), hB_⟩
     rw [if_neg c22] at H
     have c22b0 : decide ((rd (rd_L2 l0_1 x3_1) 0) < (rd (rd_L2 l0_1 (ji17)) 0)) = false := decide_eq_false c22
     clear c22
     by_cases c24 : (rd (rd_L2 l0_1 (ji17)) 0) = (rd (rd_L2 l0_1 x3_1) 0)
     rotate_left
     ·rw [if_neg c24] at H
      have c24b0 : ((rd (rd_L2 l0_1 (ji17)) 0) == (rd (rd_L2 l0_1 x3_1) 0)) = false := beq_eq_false_iff_ne.mpr c24
      have c24b1 : ((rd (rd_L2 l0_1 (ji17)) 0) != (rd (rd_L2 l0_1 x3_1) 0)) = true := bne_iff_ne.mpr c24
      have H' := Aside0.mk H
      clear H
      obtain ⟨hcz30_0, hcz30_1, hfz30_0, hfz30_1⟩ := c2_ BK226.out
      have p233 : 0 ≤ ((ji17) : Int) := of_decide_eq_true as_
      have q233 : (ji17) < (l0_1.length : Int) := of_decide_eq_true as_
      obtain ⟨ad233, A233_0, c233_0, e233, hx233_0, hl233_0, hi233_0⟩ := at_L2 HR0_1.out (ji17) p233 q233
      obtain rfl : ad228 = ad233 := (by injection e233)
      replace hx233_0 := (HB.out.cell (World.block_lt_of_cell? w _ hx233_0)).trans hx233_0
      have HR233_0 := Aside0.mk hi233_0
      have HC233_0 := Aside0.mk hl233_0
      clear hi233_0 hl233_0
      replace p233 := eq_true p233
      replace q233 := eq_true q233
      have p234 : 0 ≤ (0 : Int) := (by omega)
      have q234 : 0 < ((rd_L2 l0_1 (ji17)).length : Int) := of_decide_eq_true as_
      obtain ⟨ad234, e234, hx234_0⟩ := Zx HR233_0.out 0 p234 q234
      cases e234
      have qi234 : (0 < (rd_L2 l0_1 (ji17)).length) = True := eq_true (by omega)
      (try rw [show ((0 : Int)).toNat = 0 from rfl] at hx234_0)
      (try rw [Addr.add_zero'] at hx234_0)
      replace hx234_0 := (HB.out.cell (World.block_lt_of_cell? w _ hx234_0)).trans hx234_0
      replace p234 := eq_true p234
      replace q234 := eq_true q234
      have p235 : 0 ≤ (0 : Int) := (by omega)
      have q235 : 0 < ((rd_L2 l0_1 x3_1).length : Int) := of_decide_eq_true as_
      obtain ⟨ad235, e235, hx235_0⟩ := Zx HR228_0.out 0 p235 q235
      cases e235
      have qi235 : (0 < (rd_L2 l0_1 x3_1).length) = True := eq_true (by omega)
      (try rw [show ((0 : Int)).toNat = 0 from rfl] at hx235_0)
      (try rw [Addr.add_zero'] at hx235_0)
      replace hx235_0 := (HB.out.cell (World.block_lt_of_cell? w _ hx235_0)).trans hx235_0
      replace p235 := eq_true p235
      replace q235 := eq_true q235
      have p236 : 0 ≤ (0 : Int) := (by omega)
      have q236 : 0 < ((rd_L2 l0_1 (ji17)).length : Int) := of_decide_eq_true as_
      obtain ⟨ad236, e236, hx236_0⟩ := Zx HR233_0.out 0 p236 q236
      obtain rfl : ad234 = ad236 := (by injection e236)
      have qi236 : (0 < (rd_L2 l0_1 (ji17)).length) = True := eq_true (by omega)
      (try rw [show ((0 : Int)).toNat = 0 from rfl] at hx236_0)
      (try rw [Addr.add_zero'] at hx236_0)
      replace hx236_0 := (HB.out.cell (World.block_lt_of_cell? w _ hx236_0)).trans hx236_0
      replace p236 := eq_true p236
      replace q236 := eq_true q236
      have p237 : 0 ≤ (0 : Int) := (by omega)
      have q237 : 0 < ((rd_L2 l0_1 x3_1).length : Int) := of_decide_eq_true as_
      obtain ⟨ad237, e237, hx237_0⟩ := Zx HR228_0.out 0 p237 q237
      obtain rfl : ad235 = ad237 := (by injection e237)
      have qi237 : (0 < (rd_L2 l0_1 x3_1).length) = True := eq_true (by omega)
      (try rw [show ((0 : Int)).toNat = 0 from rfl] at hx237_0)
      (try rw [Addr.add_zero'] at hx237_0)
      replace hx237_0 := (HB.out.cell (World.block_lt_of_cell? w _ hx237_0)).trans hx237_0
      replace p237 := eq_true p237
      replace q237 := eq_true q237
      go_wp2
      repeat (go_quiet (fail); try go_wp2)
      go_roundg kj4
      case measure => have := HK1.out; have := HJ4.out; omega
      case rel => exact ⟨(wrap64 (x3_1 + 1)), sm_, H', ⟨by have := HK1.out; have := HJ4.out; omega⟩, ⟨bk_ BK226.out⟩, ⟨hB_⟩⟩
     rw [if_pos c24] at H
     have c24b0 : ((rd (rd_L2 l0_1 (ji17)) 0) == (rd (rd_L2 l0_1 x3_1) 0)) = true := beq_iff_eq.mpr c24
     have c24b1 : ((rd (rd_L2 l0_1 (ji17)) 0) != (rd (rd_L2 l0_1 x3_1) 0)) = false := bne_eq_false_iff_eq.mpr c24
     clear c24
     by_cases c25 : 1 < ((rd_L2 l0_1 (ji17)).length : Int)
     rotate_left
     ·rw [if_neg c25] at H
      exact absurd H (by simp)
     rw [if_pos c25] at H
     have c25b0 : decide (1 < ((rd_L2 l0_1 (ji17)).length : Int)) = true := decide_eq_true c25
     have c25b1 : decide (1 < (rd_L2 l0_1 (ji17)).length) = true := decide_eq_true (by omega)
     clear c25
     by_cases c26 : 1 < ((rd_L2 l0_1 x3_1).length : Int)
     rotate_left
     ·rw [if_neg c26] at H
      exact absurd H (by simp)
     rw [if_pos c26] at H
     have c26b0 : decide (1 < ((rd_L2 l0_1 x3_1).length : Int)) = true := decide_eq_true c26
     have c26b1 : decide (1 < (rd_L2 l0_1 x3_1).length) = true := decide_eq_true (by omega)
     clear c26
     by_cases c27 : (rd (rd_L2 l0_1 (ji17)) 1) ≥ (rd (rd_L2 l0_1 x3_1) 1)
     ·rw [if_pos c27] at H
      have c27b0 : decide ((rd (rd_L2 l0_1 x3_1) 1) ≤ (rd (rd_L2 l0_1 (ji17)) 1)) = true := decide_eq_true c27
      clear c27
      obtain rfl := Option.some.inj H
      obtain ⟨hcz28_0, hcz28_1, hfz28_0, hfz28_1⟩ := c2_ BK226.out
      have p233 : 0 ≤ ((ji17) : Int) := of_decide_eq_true as_
      have q233 : (ji17) < (l0_1.length : Int) := of_decide_eq_true as_
      obtain ⟨ad233, A233_0, c233_0, e233, hx233_0, hl233_0, hi233_0⟩ := at_L2 HR0_1.out (ji17) p233 q233
      obtain rfl : ad228 = ad233 := (by injection e233)
      replace hx233_0 := (HB.out.cell (World.block_lt_of_cell? w _ hx233_0)).trans hx233_0
      have HR233_0 := Aside0.mk hi233_0
      have HC233_0 := Aside0.mk hl233_0
      clear hi233_0 hl233_0
      replace p233 := eq_true p233
      replace q233 := eq_true q233
      have p234 : 0 ≤ (0 : Int) := (by omega)
      have q234 : 0 < ((rd_L2 l0_1 (ji17)).length : Int) := of_decide_eq_true as_
      obtain ⟨ad234, e234, hx234_0⟩ := Zx HR233_0.out 0 p234 q234
      cases e234
      have qi234 : (0 < (rd_L2 l0_1 (ji17)).length) = True := eq_true (by omega)
      (try rw [show ((0 : Int)).toNat = 0 from rfl] at hx234_0)
      (try rw [Addr.add_zero'] at hx234_0)
      replace hx234_0 := (HB.out.cell (World.block_lt_of_cell? w _ hx234_0)).trans hx234_0
      replace p234 := eq_true p234
      replace q234 := eq_true q234
      have p235 : 0 ≤ (0 : Int) := (by omega)
      have q235 : 0 < ((rd_L2 l0_1 x3_1).length : Int) := of_decide_eq_true as_
      obtain ⟨ad235, e235, hx235_0⟩ := Zx HR228_0.out 0 p235 q235
      cases e235
      have qi235 : (0 < (rd_L2 l0_1 x3_1).length) = True := eq_true (by omega)
      (try rw [show ((0 : Int)).toNat = 0 from rfl] at hx235_0)
      (try rw [Addr.add_zero'] at hx235_0)
      replace hx235_0 := (HB.out.cell (World.block_lt_of_cell? w _ hx235_0)).trans hx235_0
      replace p235 := eq_true p235
      replace q235 := eq_true q235
      have p236 : 0 ≤ (0 : Int) := (by omega)
      have q236 : 0 < ((rd_L2 l0_1 (ji17)).length : Int) := of_decide_eq_true as_
      obtain ⟨ad236, e236, hx236_0⟩ := Zx HR233_0.out 0 p236 q236
      obtain rfl : ad234 = ad236 := (by injection e236)
      have qi236 : (0 < (rd_L2 l0_1 (ji17)).length) = True := eq_true (by omega)
      (try rw [show ((0 : Int)).toNat = 0 from rfl] at hx236_0)
      (try rw [Addr.add_zero'] at hx236_0)
      replace hx236_0 := (HB.out.cell (World.block_lt_of_cell? w _ hx236_0)).trans hx236_0
      replace p236 := eq_true p236
      replace q236 := eq_true q236
      have p237 : 0 ≤ (0 : Int) := (by omega)
      have q237 : 0 < ((rd_L2 l0_1 x3_1).length : Int) := of_decide_eq_true as_
      obtain ⟨ad237, e237, hx237_0⟩ := Zx HR228_0.out 0 p237 q237
      obtain rfl : ad235 = ad237 := (by injection e237)
      have qi237 : (0 < (rd_L2 l0_1 x3_1).length) = True := eq_true (by omega)
      (try rw [show ((0 : Int)).toNat = 0 from rfl] at hx237_0)
      (try rw [Addr.add_zero'] at hx237_0)
      replace hx237_0 := (HB.out.cell (World.block_lt_of_cell? w _ hx237_0)).trans hx237_0
      replace p237 := eq_true p237
      replace q237 := eq_true q237
      have p238 : 0 ≤ (1 : Int) := (by omega)
      have q238 : 1 < ((rd_L2 l0_1 (ji17)).length : Int) := of_decide_eq_true as_
      obtain ⟨ad238, e238, hx238_0⟩ := Zx HR233_0.out 1 p238 q238
      obtain rfl : ad234 = ad238 := (by injection e238)
      (try simp only [show (1 : Int).toNat = 1 from rfl, Nat.reduceMul, Nat.reduceEqDiff, Go.Addr.add, ↓reduceIte] at hx238_0)
      have qi238 : (1 < (rd_L2 l0_1 (ji17)).length) = True := eq_true (by omega)
      (try rw [show ((1 : Int)).toNat = 1 from rfl] at hx238_0)
      replace hx238_0 := (HB.out.cell (World.block_lt_of_cell? w _ hx238_0)).trans hx238_0
      replace p238 := eq_true p238
      replace q238 := eq_true q238
      have p239 : 0 ≤ (1 : Int) := (by omega)
      have q239 : 1 < ((rd_L2 l0_1 x3_1).length : Int) := of_decide_eq_true as_
      obtain ⟨ad239, e239, hx239_0⟩ := Zx HR228_0.out 1 p239 q239
      obtain rfl : ad235 = ad239 := (by injection e239)
      (try simp only [show (1 : Int).toNat = 1 from rfl, Nat.reduceMul, Nat.reduceEqDiff, Go.Addr.add, ↓reduceIte] at hx239_0)
      have qi239 : (1 < (rd_L2 l0_1 x3_1).length) = True := eq_true (by omega)
      (try rw [show ((1 : Int)).toNat = 1 from rfl] at hx239_0)
      replace hx239_0 := (HB.out.cell (World.block_lt_of_cell? w _ hx239_0)).trans hx239_0
      replace p239 := eq_true p239
      replace q239 := eq_true q239
      go_wp2
      repeat (go_quiet (fail); try go_wp2)
      go_ret
      exact ⟨by first | rfl | (simp [errW_none, errW_some] <;> rfl) | (simp only [← hji17]; first | rfl | (simp [errW_none, errW_some] <;> rfl)) | (simp [*, errW_none, errW_some] <;> rfl), hB_⟩
     rw [if_neg c27] at H
     have c27b0 : decide ((rd (rd_L2 l0_1 x3_1) 1) ≤ (rd (rd_L2 l0_1 (ji17)) 1)) = false := decide_eq_false c27
     clear c27
     have H' := Aside0.mk H
     clear H
     obtain ⟨hcz29_0, hcz29_1, hfz29_0, hfz29_1⟩ := c2_ BK226.out
     have p233 : 0 ≤ ((ji17) : Int) := of_decide_eq_true as_
     have q233 : (ji17) < (l0_1.length : Int) := of_decide_eq_true as_
     obtain ⟨ad233, A233_0, c233_0, e233, hx233_0, hl233_0, hi233_0⟩ := at_L2 HR0_1.out (ji17) p233 q233
     obtain rfl : ad228 = ad233 := (by injection e233)
     replace hx233_0 := (HB.out.cell (World.block_lt_of_cell? w _ hx233_0)).trans hx233_0
     have HR233_0 := Aside0.mk hi233_0
     have HC233_0 := Aside0.mk hl233_0
     clear hi233_0 hl233_0
     replace p233 := eq_true p233
     replace q233 := eq_true q233
     have p234 : 0 ≤ (0 : Int) := (by omega)
     have q234 : 0 < ((rd_L2 l0_1 (ji17)).length : Int) := of_decide_eq_true as_
     obtain ⟨ad234, e234, hx234_0⟩ := Zx HR233_0.out 0 p234 q234
     cases e234
     have qi234 : (0 < (rd_L2 l0_1 (ji17)).length) = True := eq_true (by omega)
     (try rw [show ((0 : Int)).toNat = 0 from rfl] at hx234_0)
     (try rw [Addr.add_zero'] at hx234_0)
     replace hx234_0 := (HB.out.cell (World.block_lt_of_cell? w _ hx234_0)).trans hx234_0
     replace p234 := eq_true p234
     replace q234 := eq_true q234
     have p235 : 0 ≤ (0 : Int) := (by omega)
     have q235 : 0 < ((rd_L2 l0_1 x3_1).length : Int) := of_decide_eq_true as_
     obtain ⟨ad235, e235, hx235_0⟩ := Zx HR228_0.out 0 p235 q235
     cases e235
     have qi235 : (0 < (rd_L2 l0_1 x3_1).length) = True := eq_true (by omega)
     (try rw [show ((0 : Int)).toNat = 0 from rfl] at hx235_0)
     (try rw [Addr.add_zero'] at hx235_0)
     replace hx235_0 := (HB.out.cell (World.block_lt_of_cell? w _ hx235_0)).trans hx235_0
     replace p235 := eq_true p235
     replace q235 := eq_true q235
     have p236 : 0 ≤ (0 : Int) := (by omega)
     have q236 : 0 < ((rd_L2 l0_1 (ji17)).length : Int) := of_decide_eq_true as_
     obtain ⟨ad236, e236, hx236_0⟩ := Zx HR233_0.out 0 p236 q236
     obtain rfl : ad234 = ad236 := (by injection e236)
     have qi236 : (0 < (rd_L2 l0_1 (ji17)).length) = True := eq_true (by omega)
     (try rw [show ((0 : Int)).toNat = 0 from rfl] at hx236_0)
     (try rw [Addr.add_zero'] at hx236_0)
     replace hx236_0 := (HB.out.cell (World.block_lt_of_cell? w _ hx236_0)).trans hx236_0
     replace p236 := eq_true p236
     replace q236 := eq_true q236
     have p237 : 0 ≤ (0 : Int) := (by omega)
     have q237 : 0 < ((rd_L2 l0_1 x3_1).length : Int) := of_decide_eq_true as_
     obtain ⟨ad237, e237, hx237_0⟩ := Zx HR228_0.out 0 p237 q237
     obtain rfl : ad235 = ad237 := (by injection e237)
     have qi237 : (0 < (rd_L2 l0_1 x3_1).length) = True := eq_true (by omega)
     (try rw [show ((0 : Int)).toNat = 0 from rfl] at hx237_0)
     (try rw [Addr.add_zero'] at hx237_0)
     replace hx237_0 := (HB.out.cell (World.block_lt_of_cell? w _ hx237_0)).trans hx237_0
     replace p237 := eq_true p237
     replace q237 := eq_true q237
     have p238 : 0 ≤ (1 : Int) := (by omega)
     have q238 : 1 < ((rd_L2 l0_1 (ji17)).length : Int) := of_decide_eq_true as_
     obtain ⟨ad238, e238, hx238_0⟩ := Zx HR233_0.out 1 p238 q238
     obtain rfl : ad234 = ad238 := (by injection e238)
     (try simp only [show (1 : Int).toNat = 1 from rfl, Nat.reduceMul, Nat.reduceEqDiff, Go.Addr.add, ↓reduceIte] at hx238_0)
     have qi238 : (1 < (rd_L2 l0_1 (ji17)).length) = True := eq_true (by omega)
     (try rw [show ((1 : Int)).toNat = 1 from rfl] at hx238_0)
     replace hx238_0 := (HB.out.cell (World.block_lt_of_cell? w _ hx238_0)).trans hx238_0
     replace p238 := eq_true p238
     replace q238 := eq_true q238
     have p239 : 0 ≤ (1 : Int) := (by omega)
     have q239 : 1 < ((rd_L2 l0_1 x3_1).length : Int) := of_decide_eq_true as_
     obtain ⟨ad239, e239, hx239_0⟩ := Zx HR228_0.out 1 p239 q239
     obtain rfl : ad235 = ad239 := (by injection e239)
     (try simp only [show (1 : Int).toNat = 1 from rfl, Nat.reduceMul, Nat.reduceEqDiff, Go.Addr.add, ↓reduceIte] at hx239_0)
     have qi239 : (1 < (rd_L2 l0_1 x3_1).length) = True := eq_true (by omega)
     (try rw [show ((1 : Int)).toNat = 1 from rfl] at hx239_0)
     replace hx239_0 := (HB.out.cell (World.block_lt_of_cell? w _ hx239_0)).trans hx239_0
     replace p239 := eq_true p239
     replace q239 := eq_true q239
     go_wp2
     repeat (go_quiet (fail); try go_wp2)
     go_roundg kj4
     case measure => have := HK1.out; have := HJ4.out; omega
     case rel => exact ⟨(wrap64 (x3_1 + 1)), sm_, H', ⟨by have := HK1.out; have := HJ4.out; omega⟩, ⟨bk_ BK226.out⟩, ⟨hB_⟩⟩

end Go.Proofs.Ytdlobolnajcfnaa.PFnDisputes
