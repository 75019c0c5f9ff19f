-- Written by a program of this session (hooks of mine on the print): Lean checks it.
import Derived.Test.YtdlobolnajcfnaaPFnDisputesx0
import Derived.Test.YtdlobolnajcfnaaPFnDisputesx2
import Derived.Test.YtdlobolnajcfnaaPFnDisputesx3
import Derived.Test.YtdlobolnajcfnaaPFnDisputesx4
namespace Go.Proofs.Ytdlobolnajcfnaa.PFnDisputes
open Go.RowKit Go.Proofs.YtdlobolnajcfnaaW.PrintWords Go.Proofs.YtdlobolnajcfnaaW.PrintLast Go.Proofs.YtdlobolnajcfnaaW.PrintMore
attribute [local go_sem] max2_int min2_int max_two min_two max_three min_three max_four min_four   -- for this text's walks alone
set_option linter.unusedVariables false
set_option linter.unusedSimpArgs false
set_option maxHeartbeats 8000000
set_option maxRecDepth 100000

/-! ### impl_DefendedBy: function 77 -/
def impl_DefendedBy.l0 : Nat → List Int → List Int → Int → Int → Int → List (List Int) → Option (List Int)
 | 0, _, _, _, _, _, _ => none
 | k + 1, x1, x5, x14, x15, x175000, x175001 => if x15 < x14 then ((impl_Defends.f k x175000 x175001 x1 x15).bind fun t179 => (if t179 = true then (if x5.length < 17592186044416 then (impl_DefendedBy.l0 k x1 (x5 ++ [x15]) x14 (wrap64 (x15 + 1)) x175000 x175001) else (none)) else (impl_DefendedBy.l0 k x1 x5 x14 (wrap64 (x15 + 1)) x175000 x175001))) else (some x5)
def impl_DefendedBy.f (k : Nat) (a0_0 : Int) (l0_1 : List (List Int)) (l1 : List Int) : Option (List Int) := (some (([] : List Int) : List Int)).bind fun y175 => ((impl_IsSet.f k a0_0 l0_1 l1).bind fun t178 => (if t178 = true then (impl_DefendedBy.l0 k l1 y175 a0_0 0 a0_0 l0_1) else (some y175)))
theorem impl_DefendedBy.mono_l : ∀ k, (∀ y0 y1 y2 y3 y4 y5, LeO (impl_DefendedBy.l0 k y0 y1 y2 y3 y4 y5) (impl_DefendedBy.l0 (k + 1) y0 y1 y2 y3 y4 y5))
 | 0 => fun _ _ _ _ _ _ r h => by simp [impl_DefendedBy.l0] at h
 | k + 1 => by
  have ih0 := impl_DefendedBy.mono_l k
  ·intro y0 y1 y2 y3 y4 y5
   unfold impl_DefendedBy.l0
   repeat' with_reducible first | apply ih0 | apply impl_Defends.mono | apply impl_IsSet.mono | apply ZJ | apply Zn | refine Zu ?_ ?_ | refine Zo ?_ (fun _ => ?_)
theorem impl_DefendedBy.mono : ∀ a0 a1 a2 k, LeO (impl_DefendedBy.f k a0 a1 a2) (impl_DefendedBy.f (k + 1) a0 a1 a2) := by
 intro a0 a1 a2 k
 have ih0 := impl_DefendedBy.mono_l k
 unfold impl_DefendedBy.f
 repeat' with_reducible first | apply ih0 | apply impl_Defends.mono | apply impl_IsSet.mono | apply ZJ | apply Zn | refine Zu ?_ ?_ | refine Zo ?_ (fun _ => ?_)
theorem impl_DefendedBy.calls (k : Nat) (a0_0 : Int) (A0_1 : Option Addr) (c0_1 : Nat) (l0_1 : List (List Int)) (A1 : Option Addr) (c1 : Nat) (l1 : List Int) (r : List Int) (w : World) (hr0_1 : Kd.C (Kd.slice 3 (Kd.int .i64)) w A0_1 l0_1.length l0_1) (hc0_1 : l0_1.length ≤ c0_1) (hr1 : Kd.C (Kd.int .i64) w A1 l1.length l1) (hc1 : l1.length ≤ c1) (h : impl_DefendedBy.f k a0_0 l0_1 l1 = some r) :
  Calls Try.prog 77 #[.agg #[.int .i64 a0_0, .slice A0_1 l0_1.length c0_1], .slice A1 l1.length c1] w fun e w' => ∃ v0_ : Value, e = .returned (v0_) ∧ Kd.R (Kd.int .i64) 3 w' w.heap.size (fun _ => True) v0_ r ∧ Below w.heap.size w w' := by
 have hu27 := Try.underlying27
 have HR0_1 := Aside0.mk hr0_1
 have HC0_1 := Aside0.mk hc0_1
 clear hr0_1 hc0_1
 have HR1 := Aside0.mk hr1
 have HC1 := Aside0.mk hc1
 clear hr1 hc1
 have HB := Aside0.mk (Below.refl w.heap.size w)
 have H := h
 unfold impl_DefendedBy.f at H
 clear h
 obtain ⟨y175, hy175⟩ : ∃ y_ : List Int, y_ = (([] : List Int)) := ⟨_, rfl⟩
 replace H : ((impl_IsSet.f k a0_0 l0_1 l1).bind fun t178 => (if t178 = true then (impl_DefendedBy.l0 k l1 y175 a0_0 0 a0_0 l0_1) else (some y175))) = some r := hy_ hy175 H
 have Ny175 := Aside0.mk hy175
 clear hy175
 obtain ⟨t178, A3, H⟩ := bd_ H
 try dsimp only at H
 by_cases c4 : t178 = true
 rotate_left
 ·replace c4 := Bool.eq_false_iff.mpr c4
  subst c4
  rw [if_neg (show ¬ (false = true) by decide)] at H
  try dsimp only at H
  obtain rfl := Option.some.inj H
  go_enter Try.func77, Try.ntmps77
  go_wp2_with (first | ((with_reducible refine ZA (N := 2) rfl ?_); refine ZC ?hg (N := 2) ?hd (cs := #[.int .i64 a0_0, .slice A0_1 l0_1.length c0_1]) (t := 27) ?hr ?_; (case hd => rfl); (case hg => rfl); (case hr => first | (go_simp; done) | (go_simp; rfl)); intro gb174 hg w20 hbox hb; have BK174 := Aside0.mk (hbox); have GW174 := Aside0.mk ((hz_ hg : w.heap.size ≤ gb174)); have GE174 := Aside0.mk ((hz_ hg : w.heap.size ≤ gb174)); replace HB := Aside0.mk (Zh hB_ hb); clear hb hbox hg) | ((with_reducible refine ZA (N := 7) rfl ?_); refine Kd.R_lit (Kd.int .i64) _ 3 ?hg (N := 7) ?hd (xs := ([] : List Int)) (inner := []) (ok := fun _ => True) (okp := fun _ => True) ?hr ?hp (fun _ hk => hk) trivial (Below.refl _ _) (Nat.le_refl _) (by simp) ?_; (case hd => rfl); (case hg => rfl); (case hr => first | (go_simp; done) | (go_simp; rfl)); (case hp => exact (Reps.none _ _)); intro v176 w21 ho22 hb hg_ hnew_; clear hg_ hnew_; (first | rw [← Ny175.out] at ho22 | (simp only [Int.reduceToNat] at ho22; rw [← Ny175.out] at ho22)); have HO177 := Aside0.mk (Kd.R_lower ho22 (Zm hB_)); replace BK174 := Aside0.mk (Zg (bq_ BK174.out) hb); replace HB := Aside0.mk (Zh hB_ hb); clear hb ho22; obtain ⟨hcz23_0, hcz23_1, hfz23_0, hfz23_1⟩ := c2_ BK174.out; (try clear BK174)) | ((with_reducible refine Zl (f := 90) rfl ?_); refine ZI (some 10) rfl rfl Try.func90 (by kernel_rfl) rfl #[.agg #[.int .i64 a0_0, .slice A0_1 l0_1.length c0_1], .slice A1 l1.length c1] rfl ar_ ?_; (with_reducible refine (impl_IsSet.calls k a0_0 _ _ l0_1 _ _ l1 false _ ?side1 ?side2 ?side3 ?side4 A3.out).mono ?_); (case side1 => exact cb_ HR0_1.out); (case side2 => exact HC0_1.out); (case side3 => exact cb_ HR1.out); (case side4 => exact HC1.out); rintro e w24 ⟨rfl, hb⟩; refine ⟨_, rfl, ?_⟩; replace HO177 := Aside0.mk (Kd.R_below (rR_ HO177.out) hb); replace HB := Aside0.mk (Zh hB_ hb); (try clear hb); (try clear hk)))
  go_ret
  exact ⟨_, er_, rR_ HO177.out, hB_⟩
 subst c4
 rw [if_pos rfl] at H
 try dsimp only at H
 have H' := Aside0.mk H
 clear H
 go_enter Try.func77, Try.ntmps77
 go_wp2_with (first | ((with_reducible refine ZA (N := 2) rfl ?_); refine ZC ?hg (N := 2) ?hd (cs := #[.int .i64 a0_0, .slice A0_1 l0_1.length c0_1]) (t := 27) ?hr ?_; (case hd => rfl); (case hg => rfl); (case hr => first | (go_simp; done) | (go_simp; rfl)); intro gb174 hg w5 hbox hb; have BK174 := Aside0.mk (hbox); have GW174 := Aside0.mk ((hz_ hg : w.heap.size ≤ gb174)); have GE174 := Aside0.mk ((hz_ hg : w.heap.size ≤ gb174)); replace HB := Aside0.mk (Zh hB_ hb); clear hb hbox hg) | ((with_reducible refine ZA (N := 7) rfl ?_); refine Kd.R_lit (Kd.int .i64) _ 3 ?hg (N := 7) ?hd (xs := ([] : List Int)) (inner := []) (ok := fun _ => True) (okp := fun _ => True) ?hr ?hp (fun _ hk => hk) trivial (Below.refl _ _) (Nat.le_refl _) (by simp) ?_; (case hd => rfl); (case hg => rfl); (case hr => first | (go_simp; done) | (go_simp; rfl)); (case hp => exact (Reps.none _ _)); intro v176 w6 ho7 hb hg_ hnew_; clear hg_ hnew_; (first | rw [← Ny175.out] at ho7 | (simp only [Int.reduceToNat] at ho7; rw [← Ny175.out] at ho7)); have HO177 := Aside0.mk (Kd.R_lower ho7 (Zm hB_)); replace BK174 := Aside0.mk (Zg (bq_ BK174.out) hb); replace HB := Aside0.mk (Zh hB_ hb); clear hb ho7; obtain ⟨hcz8_0, hcz8_1, hfz8_0, hfz8_1⟩ := c2_ BK174.out) | ((with_reducible refine Zl (f := 90) rfl ?_); refine ZI (some 10) rfl rfl Try.func90 (by kernel_rfl) rfl #[.agg #[.int .i64 a0_0, .slice A0_1 l0_1.length c0_1], .slice A1 l1.length c1] rfl ar_ ?_; (with_reducible refine (impl_IsSet.calls k a0_0 _ _ l0_1 _ _ l1 true _ ?side1 ?side2 ?side3 ?side4 A3.out).mono ?_); (case side1 => exact cb_ HR0_1.out); (case side2 => exact HC0_1.out); (case side3 => exact cb_ HR1.out); (case side4 => exact HC1.out); rintro e w9 ⟨rfl, hb⟩; refine ⟨_, rfl, ?_⟩; replace HO177 := Aside0.mk (Kd.R_below (rR_ HO177.out) hb); replace BK174 := Aside0.mk (Zg (bq_ BK174.out) hb); replace HB := Aside0.mk (Zh hB_ hb); (try clear hb); (try clear hk); obtain ⟨hcz10_0, hcz10_1, hfz10_0, hfz10_1⟩ := c2_ BK174.out))
 go_loopg [5, 15] k (fun kq v5 v15 w' => ∃ (x5_1 : List Int) (x15_1 : Int), v15 = .int .i64 x15_1 ∧ Aside0 (impl_DefendedBy.l0 kq l1 x5_1 a0_0 x15_1 a0_0 l0_1 = some r) ∧ Aside0 (kq ≤ k) ∧ Aside0 (Kd.R (Kd.int .i64) 3 w' w.heap.size (fun _ => True) v5 x5_1) ∧ Aside0 (w'.heap[gb174]? = some (.cells #[.int .i64 a0_0, (.slice A0_1 l0_1.length c0_1)] 27 (0, 0))) ∧ Aside0 (Below w.heap.size w w'))
 case atStart => exact ⟨(y175), (0), sm_, H', ⟨Nat.le_refl _⟩, ⟨rR_ HO177.out⟩, ⟨bk_ BK174.out⟩, ⟨hB_⟩⟩
 case round =>
  clear H'
  try clear c1
  try clear p2
  try clear c4
  try clear c7
  try clear c9
  try clear hcz10_0
  try clear hcz10_1
  try clear hcz8_0
  try clear hcz8_1
  try clear hfz10_0
  try clear hfz10_1
  try clear hfz8_0
  try clear hfz8_1
  obtain ⟨x5_1, x15_1, rfl, HA, HK1, HO_5, BK174, HB⟩ := hrel
  cases gk with
  | zero => exact absurd HA.out (by simp [impl_DefendedBy.l0])
  | succ k1 =>
   have H := HA.out
   clear HA
   simp only [impl_DefendedBy.l0] at H
   by_cases c11 : x15_1 < a0_0
   rotate_left
   ·rw [if_neg c11] at H
    have c11b0 : decide (x15_1 < a0_0) = false := decide_eq_false c11
    clear c11
    obtain rfl := Option.some.inj H
    go_wp2
    go_ret
    exact ⟨_, er_, rR_ HO_5.out, hB_⟩
   rw [if_pos c11] at H
   have c11b0 : decide (x15_1 < a0_0) = true := decide_eq_true c11
   clear c11
   obtain ⟨t179, A12, H⟩ := bd_ H
   try dsimp only at H
   by_cases c13 : t179 = true
   rotate_left
   ·replace c13 := Bool.eq_false_iff.mpr c13
    subst c13
    rw [if_neg (show ¬ (false = true) by decide)] at H
    try dsimp only at H
    have H' := Aside0.mk H
    clear H
    obtain ⟨hcz18_0, hcz18_1, hfz18_0, hfz18_1⟩ := c2_ BK174.out
    go_wp2_with (first | ((with_reducible refine Zl (f := 115) rfl ?_); refine ZI (some 21) rfl rfl Try.func115 (by kernel_rfl) rfl #[.agg #[.int .i64 a0_0, .slice A0_1 l0_1.length c0_1], .slice A1 l1.length c1, .int .i64 x15_1] rfl ar_ ?_; (with_reducible refine (impl_Defends.calls k1 a0_0 _ _ l0_1 _ _ l1 x15_1 false _ ?side1 ?side2 ?side3 ?side4 A12.out).mono ?_); (case side1 => exact cb_ HR0_1.out); (case side2 => exact HC0_1.out); (case side3 => exact cb_ HR1.out); (case side4 => exact HC1.out); rintro e w19 ⟨rfl, hb⟩; refine ⟨_, rfl, ?_⟩; replace HO_5 := Aside0.mk (Kd.R_below (rR_ HO_5.out) hb); replace BK174 := Aside0.mk (Zg (bq_ BK174.out) hb); replace HB := Aside0.mk (Zh hB_ hb); (try clear hb)))
    go_roundg k1
    case measure => have := HK1.out; omega
    case rel => exact ⟨(x5_1), (wrap64 (x15_1 + 1)), sm_, H', ⟨by have := HK1.out; omega⟩, ⟨rR_ HO_5.out⟩, ⟨bk_ BK174.out⟩, ⟨hB_⟩⟩
   subst c13
   rw [if_pos rfl] at H
   try dsimp only at H
   by_cases c14 : x5_1.length < 17592186044416
   rotate_left
   ·rw [if_neg c14] at H
    exact absurd H (by simp)
   rw [if_pos c14] at H
   have LMc14 := Aside0.mk c14
   clear c14
   obtain ⟨y180, hy180⟩ : ∃ y_ : List Int, y_ = (x5_1 ++ [x15_1]) := ⟨_, rfl⟩
   replace H : (impl_DefendedBy.l0 k1 l1 y180 a0_0 (wrap64 (x15_1 + 1)) a0_0 l0_1) = some r := hy_ hy180 H
   have Ny180 := Aside0.mk hy180
   clear hy180
   have H' := Aside0.mk H
   clear H
   obtain ⟨hcz15_0, hcz15_1, hfz15_0, hfz15_1⟩ := c2_ BK174.out
   go_wp2_with (first | ((with_reducible refine Zl (f := 115) rfl ?_); refine ZI (some 21) rfl rfl Try.func115 (by kernel_rfl) rfl #[.agg #[.int .i64 a0_0, .slice A0_1 l0_1.length c0_1], .slice A1 l1.length c1, .int .i64 x15_1] rfl ar_ ?_; (with_reducible refine (impl_Defends.calls k1 a0_0 _ _ l0_1 _ _ l1 x15_1 true _ ?side1 ?side2 ?side3 ?side4 A12.out).mono ?_); (case side1 => exact cb_ HR0_1.out); (case side2 => exact HC0_1.out); (case side3 => exact cb_ HR1.out); (case side4 => exact HC1.out); rintro e w16 ⟨rfl, hb⟩; refine ⟨_, rfl, ?_⟩; replace HO_5 := Aside0.mk (Kd.R_below (rR_ HO_5.out) hb); replace BK174 := Aside0.mk (Zg (bq_ BK174.out) hb); replace HB := Aside0.mk (Zh hB_ hb); (try clear hb); (try clear hk)) | ((with_reducible refine gate_builtin (b := .append) (xs := #[.tmp 22, .tmp 24]) rfl ?_); at_builtin; refine Kd.R_append (Kd.int .i64) (w0 := w) w.heap.size rfl (.tmp 22) (.tmp 24) 31 3 (.int .i64 0) 8 rfl Try.underlying31 info3 rfl (by decide) (by omega) u5 x5_1 x15_1 [.int .i64 x15_1] (fun _ => True) (fun _ => False) rfl rfl ?aP (fun _ hk => hk.elim) ?aF ?aO ?aB ?aS ?aL ?_; (case aP => exact rfl); (case aB => exact hB_); (case aF => exact (fun _ _ => trivial)); (case aO => exact (rR_ HO_5.out)); (case aS => exact (Zm hB_)); (case aL => have := LMc14.out; omega); intro v181 w17 ho hb hg hat; rw [← Ny180.out] at ho; have n0_ := Aside0.mk (ZT (bq_ BK174.out) hg (Kd.R_ne HO_5.out BK174.out (by decide))); have n1_ := Aside0.mk (hb); have n2_ := Aside0.mk (ho); clear BK174; clear HB; clear HO_5; have BK174 := n0_; have HB := n1_; have HO182 := n2_; clear n0_ n1_ n2_; clear ho hb hg hat))
   go_roundg k1
   case measure => have := HK1.out; omega
   case rel => exact ⟨(y180), (wrap64 (x15_1 + 1)), sm_, H', ⟨by have := HK1.out; omega⟩, ⟨rR_ HO182.out⟩, ⟨bk_ BK174.out⟩, ⟨hB_⟩⟩

/-! ### impl_rounds: function 78 -/
def impl_rounds.l0 : Nat → List (List Int) → Int → List (List Int) → Option ((List (List Int)))
 | 0, _, _, _ => none
 | k + 1, x3, x184000, x184001 => if 0 ≤ (wrap64 ((x3.length : Int) - 1)) then (if (wrap64 ((x3.length : Int) - 1)) < (x3.length : Int) then ((impl_DefendedBy.f k x184000 x184001 (rd_L2 x3 (wrap64 ((x3.length : Int) - 1)))).bind fun t192 => ((slices_Equal_int_int.f k t192 (rd_L2 x3 (wrap64 ((x3.length : Int) - 1)))).bind fun t195 => (if t195 = true then (some x3) else (if x3.length < 5864062014805 then (impl_rounds.l0 k (x3 ++ [t192]) x184000 x184001) else (none))))) else (none)) else (none)
def impl_rounds.f (k : Nat) (a0_0 : Int) (l0_1 : List (List Int)) : Option ((List (List Int))) := (some (([(([] : List Int))] : List (List Int)) : List (List Int))).bind fun y187 => ((impl_IsGraph.f k a0_0 l0_1).bind fun t190 => (if t190 = true then (impl_rounds.l0 k y187 a0_0 l0_1) else (some y187)))
theorem impl_rounds.mono_l : ∀ k, (∀ y0 y1 y2, LeO (impl_rounds.l0 k y0 y1 y2) (impl_rounds.l0 (k + 1) y0 y1 y2))
 | 0 => fun _ _ _ r h => by simp [impl_rounds.l0] at h
 | k + 1 => by
  have ih0 := impl_rounds.mono_l k
  ·intro y0 y1 y2
   unfold impl_rounds.l0
   repeat' with_reducible first | apply ih0 | apply impl_DefendedBy.mono | apply impl_IsGraph.mono | apply slices_Equal_int_int.mono | apply ZJ | apply Zn | refine Zu ?_ ?_ | refine Zo ?_ (fun _ => ?_)
theorem impl_rounds.mono : ∀ a0 a1 k, LeO (impl_rounds.f k a0 a1) (impl_rounds.f (k + 1) a0 a1) := by
 intro a0 a1 k
 have ih0 := impl_rounds.mono_l k
 unfold impl_rounds.f
 repeat' with_reducible first | apply ih0 | apply impl_DefendedBy.mono | apply impl_IsGraph.mono | apply slices_Equal_int_int.mono | apply ZJ | apply Zn | refine Zu ?_ ?_ | refine Zo ?_ (fun _ => ?_)
theorem impl_rounds.calls (k : Nat) (a0_0 : Int) (A0_1 : Option Addr) (c0_1 : Nat) (l0_1 : List (List Int)) (r : List (List Int)) (w : World) (hr0_1 : Kd.C (Kd.slice 3 (Kd.int .i64)) w A0_1 l0_1.length l0_1) (hc0_1 : l0_1.length ≤ c0_1) (h : impl_rounds.f k a0_0 l0_1 = some r) :
  Calls Try.prog 78 #[.agg #[.int .i64 a0_0, .slice A0_1 l0_1.length c0_1]] w fun e w' => ∃ v0_ : Value, e = .returned (v0_) ∧ Kd.N (Kd.slice 3 (Kd.int .i64)) 31 w' w.heap.size (fun k_ => (w.heap.size ≤ k_)) v0_ r ∧ Below w.heap.size w w' := by
 have hu27 := Try.underlying27
 have HR0_1 := Aside0.mk hr0_1
 have HC0_1 := Aside0.mk hc0_1
 clear hr0_1 hc0_1
 have HB := Aside0.mk (Below.refl w.heap.size w)
 have H := h
 unfold impl_rounds.f at H
 clear h
 obtain ⟨y184, hy184⟩ : ∃ y_ : List Int, y_ = (([] : List Int)) := ⟨_, rfl⟩
 replace H : ((some (([y184] : List (List Int)) : List (List Int))).bind fun y187 => ((impl_IsGraph.f k a0_0 l0_1).bind fun t190 => (if t190 = true then (impl_rounds.l0 k y187 a0_0 l0_1) else (some y187)))) = some r := hy_ hy184 H
 have Ny184 := Aside0.mk hy184
 clear hy184
 obtain ⟨y187, hy187⟩ : ∃ y_ : List (List Int), y_ = (([y184] : List (List Int))) := ⟨_, rfl⟩
 replace H : ((impl_IsGraph.f k a0_0 l0_1).bind fun t190 => (if t190 = true then (impl_rounds.l0 k y187 a0_0 l0_1) else (some y187))) = some r := hy_ hy187 H
 have Ny187 := Aside0.mk hy187
 clear hy187
 obtain ⟨t190, A2, H⟩ := bd_ H
 try dsimp only at H
 by_cases c3 : t190 = true
 rotate_left
 ·replace c3 := Bool.eq_false_iff.mpr c3
  subst c3
  rw [if_neg (show ¬ (false = true) by decide)] at H
  try dsimp only at H
  obtain rfl := Option.some.inj H
  go_enter Try.func78, Try.ntmps78
  go_wp2_with (first | ((with_reducible refine ZA (N := 1) rfl ?_); refine ZC ?hg (N := 1) ?hd (cs := #[.int .i64 a0_0, .slice A0_1 l0_1.length c0_1]) (t := 27) ?hr ?_; (case hd => rfl); (case hg => rfl); (case hr => first | (go_simp; done) | (go_simp; rfl)); intro gb183 hg w28 hbox hb; have BK183 := Aside0.mk (hbox); have GW183 := Aside0.mk ((hz_ hg : w.heap.size ≤ gb183)); have GE183 := Aside0.mk ((hz_ hg : w.heap.size ≤ gb183)); replace HB := Aside0.mk (Zh hB_ hb); clear hb hbox hg) | ((with_reducible refine ZA (N := 6) rfl ?_); refine Kd.R_lit (Kd.int .i64) _ 3 ?hg (N := 6) ?hd (xs := ([] : List Int)) (inner := []) (ok := fun _ => True) (okp := fun _ => True) ?hr ?hp (fun _ hk => hk) trivial (Below.refl _ _) (Nat.le_refl _) (by simp) ?_; (case hd => rfl); (case hg => rfl); (case hr => first | (go_simp; done) | (go_simp; rfl)); (case hp => exact (Reps.none _ _)); intro v185 w29 ho30 hb hg_ hnew_; clear hg_ hnew_; (first | rw [← Ny184.out] at ho30 | (simp only [Int.reduceToNat] at ho30; rw [← Ny184.out] at ho30)); have HO186 := Aside0.mk (Kd.R_lower (Kd.R_newM (M := fun k_ => (w.heap.size ≤ k_)) ho30 (Zm hB_) (fun k_ h_ => h_)) (Zm hB_)); replace BK183 := Aside0.mk (Zg (bq_ BK183.out) hb); replace HB := Aside0.mk (Zh hB_ hb); clear hb ho30; obtain ⟨Ao31, co31, eo31⟩ := Kd.R_slice HO186.out; subst eo31) | ((with_reducible refine ZA (N := 7) rfl ?_); refine Kd.N_lit (Kd.slice 3 (Kd.int .i64)) _ 31 ?hg (N' := 7) ?hd (xs := ([y184] : List (List Int))) (inner := [.slice Ao31 y184.length co31]) (ok := (fun k_ => (w.heap.size ≤ k_) ∧ k_ ≠ gb183)) (okp := (fun k_ => (w.heap.size ≤ k_) ∧ k_ ≠ gb183)) ?hr ?hp (fun _ hk => hk) ((show ∀ k_, w29.heap.size ≤ k_ → (fun k_ => (w.heap.size ≤ k_) ∧ k_ ≠ gb183) k_ from fun k_ hk => ⟨(Nat.le_trans (Zm hB_) hk), Kd.freshB (bq_ BK183.out) k_ hk⟩) _ (Nat.le_refl _)) (Below.refl _ _) (Nat.le_refl _) (by simp) ?_; (case hd => rfl); (case hg => rfl); (case hr => first | (go_simp; done) | (go_simp; rfl)); (case hp => exact (Reps.one (show Kd.FK (Kd.slice 3 (Kd.int .i64)) _ _ y184 [.slice Ao31 y184.length co31] from (Kd.FK_slice_mk (ZF (Zw (ok' := (fun k_ => (w.heap.size ≤ k_) ∧ k_ ≠ gb183)) (Kd.R_types (HO186.out) BK183.out (by decide)) (fun k_ hk => ⟨hk.1.1, hk.2⟩))).2.1 (Kd.R_F (Zw (ok' := (fun k_ => (w.heap.size ≤ k_) ∧ k_ ≠ gb183)) (Kd.R_types (HO186.out) BK183.out (by decide)) (fun k_ hk => ⟨hk.1.1, hk.2⟩))))) (Reps.none _ _))); intro v188 w32 ho33 hb hg_ hnew_; clear hg_ hnew_; (first | rw [← Ny187.out] at ho33 | (simp only [Int.reduceToNat] at ho33; rw [← Ny187.out] at ho33)); have n0_ := Aside0.mk (Kd.N_lower ho33 (Zm hB_)); have n1_ := Aside0.mk (Zg (bq_ BK183.out) hb); have n2_ := Aside0.mk (Zh hB_ hb); clear BK183; clear HB; clear HO186; have HO189 := n0_; have BK183 := n1_; have HB := n2_; clear n0_ n1_ n2_; clear hb ho33; obtain ⟨hcz34_0, hcz34_1, hfz34_0, hfz34_1⟩ := c2_ BK183.out) | ((with_reducible refine Zl (f := 24) rfl ?_); refine ZI (some 9) rfl rfl Try.func24 (by kernel_rfl) rfl #[.agg #[.int .i64 a0_0, .slice A0_1 l0_1.length c0_1]] rfl ar_ ?_; (with_reducible refine (impl_IsGraph.calls k a0_0 _ _ l0_1 false _ ?side1 ?side2 A2.out).mono ?_); (case side1 => exact cb_ HR0_1.out); (case side2 => exact HC0_1.out); rintro e w35 ⟨rfl, hb⟩; refine ⟨_, rfl, ?_⟩; replace HO189 := Aside0.mk (Kd.N_below (rN_ HO189.out) hb); replace BK183 := Aside0.mk (Zg (bq_ BK183.out) hb); replace HB := Aside0.mk (Zh hB_ hb); (try clear hb); (try clear hk)))
  go_ret
  exact ⟨_, er_, by (with_reducible repeat (first | apply Kd.N_alloc | apply Kd.N_drewN | apply Kd.N_drew)); exact Kd.N_mono HO189.out (fun _ hk => hk.1), hB_⟩
 subst c3
 rw [if_pos rfl] at H
 try dsimp only at H
 have H' := Aside0.mk H
 clear H
 go_enter Try.func78, Try.ntmps78
 go_wp2_with (first | ((with_reducible refine ZA (N := 1) rfl ?_); refine ZC ?hg (N := 1) ?hd (cs := #[.int .i64 a0_0, .slice A0_1 l0_1.length c0_1]) (t := 27) ?hr ?_; (case hd => rfl); (case hg => rfl); (case hr => first | (go_simp; done) | (go_simp; rfl)); intro gb183 hg w4 hbox hb; have BK183 := Aside0.mk (hbox); have GW183 := Aside0.mk ((hz_ hg : w.heap.size ≤ gb183)); have GE183 := Aside0.mk ((hz_ hg : w.heap.size ≤ gb183)); replace HB := Aside0.mk (Zh hB_ hb); clear hb hbox hg) | ((with_reducible refine ZA (N := 6) rfl ?_); refine Kd.R_lit (Kd.int .i64) _ 3 ?hg (N := 6) ?hd (xs := ([] : List Int)) (inner := []) (ok := fun _ => True) (okp := fun _ => True) ?hr ?hp (fun _ hk => hk) trivial (Below.refl _ _) (Nat.le_refl _) (by simp) ?_; (case hd => rfl); (case hg => rfl); (case hr => first | (go_simp; done) | (go_simp; rfl)); (case hp => exact (Reps.none _ _)); intro v185 w5 ho6 hb hg_ hnew_; clear hg_ hnew_; (first | rw [← Ny184.out] at ho6 | (simp only [Int.reduceToNat] at ho6; rw [← Ny184.out] at ho6)); have HO186 := Aside0.mk (Kd.R_lower (Kd.R_newM (M := fun k_ => (w.heap.size ≤ k_)) ho6 (Zm hB_) (fun k_ h_ => h_)) (Zm hB_)); replace BK183 := Aside0.mk (Zg (bq_ BK183.out) hb); replace HB := Aside0.mk (Zh hB_ hb); clear hb ho6; obtain ⟨Ao7, co7, eo7⟩ := Kd.R_slice HO186.out; subst eo7) | ((with_reducible refine ZA (N := 7) rfl ?_); refine Kd.N_lit (Kd.slice 3 (Kd.int .i64)) _ 31 ?hg (N' := 7) ?hd (xs := ([y184] : List (List Int))) (inner := [.slice Ao7 y184.length co7]) (ok := (fun k_ => (w.heap.size ≤ k_) ∧ k_ ≠ gb183)) (okp := (fun k_ => (w.heap.size ≤ k_) ∧ k_ ≠ gb183)) ?hr ?hp (fun _ hk => hk) ((show ∀ k_, w5.heap.size ≤ k_ → (fun k_ => (w.heap.size ≤ k_) ∧ k_ ≠ gb183) k_ from fun k_ hk => ⟨(Nat.le_trans (Zm hB_) hk), Kd.freshB (bq_ BK183.out) k_ hk⟩) _ (Nat.le_refl _)) (Below.refl _ _) (Nat.le_refl _) (by simp) ?_; (case hd => rfl); (case hg => rfl); (case hr => first | (go_simp; done) | (go_simp; rfl)); (case hp => exact (Reps.one (show Kd.FK (Kd.slice 3 (Kd.int .i64)) _ _ y184 [.slice Ao7 y184.length co7] from (Kd.FK_slice_mk (ZF (Zw (ok' := (fun k_ => (w.heap.size ≤ k_) ∧ k_ ≠ gb183)) (Kd.R_types (HO186.out) BK183.out (by decide)) (fun k_ hk => ⟨hk.1.1, hk.2⟩))).2.1 (Kd.R_F (Zw (ok' := (fun k_ => (w.heap.size ≤ k_) ∧ k_ ≠ gb183)) (Kd.R_types (HO186.out) BK183.out (by decide)) (fun k_ hk => ⟨hk.1.1, hk.2⟩))))) (Reps.none _ _))); intro v188 w8 ho9 hb hg_ hnew_; clear hg_ hnew_; (first | rw [← Ny187.out] at ho9 | (simp only [Int.reduceToNat] at ho9; rw [← Ny187.out] at ho9)); have n0_ := Aside0.mk (Kd.N_lower ho9 (Zm hB_)); have n1_ := Aside0.mk (Zg (bq_ BK183.out) hb); have n2_ := Aside0.mk (Zh hB_ hb); clear BK183; clear HB; clear HO186; have HO189 := n0_; have BK183 := n1_; have HB := n2_; clear n0_ n1_ n2_; clear hb ho9; obtain ⟨hcz10_0, hcz10_1, hfz10_0, hfz10_1⟩ := c2_ BK183.out) | ((with_reducible refine Zl (f := 24) rfl ?_); refine ZI (some 9) rfl rfl Try.func24 (by kernel_rfl) rfl #[.agg #[.int .i64 a0_0, .slice A0_1 l0_1.length c0_1]] rfl ar_ ?_; (with_reducible refine (impl_IsGraph.calls k a0_0 _ _ l0_1 true _ ?side1 ?side2 A2.out).mono ?_); (case side1 => exact cb_ HR0_1.out); (case side2 => exact HC0_1.out); rintro e w11 ⟨rfl, hb⟩; refine ⟨_, rfl, ?_⟩; replace HO189 := Aside0.mk (Kd.N_below (rN_ HO189.out) hb); replace BK183 := Aside0.mk (Zg (bq_ BK183.out) hb); replace HB := Aside0.mk (Zh hB_ hb); (try clear hb); (try clear hk)))
 go_loopg [3] k (fun kq v3 w' => ∃ (x3_1 : List (List Int)), Aside0 (impl_rounds.l0 kq x3_1 a0_0 l0_1 = some r) ∧ Aside0 (kq ≤ k) ∧ Aside0 (Kd.N (Kd.slice 3 (Kd.int .i64)) 31 w' w.heap.size (fun k_ => (w.heap.size ≤ k_) ∧ k_ ≠ gb183) v3 x3_1) ∧ Aside0 (w'.heap[gb183]? = some (.cells #[.int .i64 a0_0, (.slice A0_1 l0_1.length c0_1)] 27 (0, 0))) ∧ Aside0 (Below w.heap.size w w'))
 case atStart => exact ⟨(y187), H', ⟨Nat.le_refl _⟩, ⟨rN_ HO189.out⟩, ⟨bk_ BK183.out⟩, ⟨hB_⟩⟩
 case round =>
  clear H'
  try clear c2
  try clear p2
  try clear c3
  try clear c7
  try clear hcz10_0
  try clear hcz10_1
  try clear hfz10_0
  try clear hfz10_1
  obtain ⟨x3_1, HA, HK1, HO_3, BK183, HB⟩ := hrel
  cases gk with
  | zero => exact absurd HA.out (by simp [impl_rounds.l0])
  | succ k1 =>
   have H := HA.out
   clear HA
   simp only [impl_rounds.l0] at H
   obtain ⟨ji12, hji12⟩ : ∃ j_ : Int, (wrap64 ((x3_1.length : Int) - 1)) = j_ := ⟨_, rfl⟩
   replace H : (if 0 ≤ (ji12) then (if (ji12) < (x3_1.length : Int) then ((impl_DefendedBy.f k1 a0_0 l0_1 (rd_L2 x3_1 (ji12))).bind fun t192 => ((slices_Equal_int_int.f k1 t192 (rd_L2 x3_1 (ji12))).bind fun t195 => (if t195 = true then (some x3_1) else (if x3_1.length < 5864062014805 then (impl_rounds.l0 k1 (x3_1 ++ [t192]) a0_0 l0_1) else (none))))) else (none)) else (none)) = some r := by first | (rw [hji12] at H; exact H) | (simp only [hji12] at H ⊢; exact H)
   have hji12w : (IntKind.i64.wrap ((x3_1.length : Int) - 1)) = ji12 := (i64_w _).trans hji12
   by_cases c13 : 0 ≤ (ji12)
   rotate_left
   ·rw [if_neg c13] at H
    exact absurd H (by simp)
   rw [if_pos c13] at H
   have c13b0 : decide (0 ≤ (ji12)) = true := decide_eq_true c13
   clear c13
   by_cases c14 : (ji12) < (x3_1.length : Int)
   rotate_left
   ·rw [if_neg c14] at H
    exact absurd H (by simp)
   rw [if_pos c14] at H
   have c14b0 : decide ((ji12) < (x3_1.length : Int)) = true := decide_eq_true c14
   clear c14
   obtain ⟨t192, A15, H⟩ := bd_ H
   try dsimp only at H
   obtain ⟨t195, A16, H⟩ := bd_ H
   try dsimp only at H
   by_cases c17 : t195 = true
   ·subst c17
    rw [if_pos rfl] at H
    try dsimp only at H
    obtain rfl := Option.some.inj H
    obtain ⟨Ao18, co18, eo18⟩ := Kd.N_slice HO_3.out
    subst eo18
    have p191 : 0 ≤ ((ji12) : Int) := of_decide_eq_true as_
    have q191 : (ji12) < (x3_1.length : Int) := of_decide_eq_true as_
    obtain ⟨ad191, A191_0, c191_0, e191, hx191_0, hl191_0, hi191_0⟩ := at_L2 (Kd.N_reads' HO_3.out).2.2 (ji12) p191 q191
    cases e191
    obtain ⟨ce191, hce191, hMe191, hcc191⟩ := Kd.N_get HO_3.out [] (ji12) p191 (by first | exact q191 | exact of_decide_eq_true as_ | (have e_ := (Kd.N_reads' HO_3.out).1; omega))
    obtain ⟨ua191_0, uc191_0, rfl, ul191_0, ge191_0⟩ := Kd.FK_slice_open hMe191
    have hv191_0 := hcc191 0 _ rfl
    rw [Nat.add_zero, show ((Kd.slice 3 (Kd.int .i64))).sz = 1 from rfl, Nat.mul_one] at hv191_0
    replace hv191_0 := Option.some.inj (hv191_0.symm.trans hx191_0)
    injection hv191_0 with hva_ hvn_ hvc_
    rw [hva_] at ge191_0
    rw [hvc_] at ul191_0
    have HL191_0 := Aside0.mk (show Kd.V (Kd.int .i64) 3 _ w.heap.size _ _ (rd_L2 x3_1 (ji12)) from Kd.V_mk ul191_0 ge191_0)
    clear hva_ hvn_ hvc_ ge191_0 ul191_0
    clear hcc191 hce191
    have HR191_0 := Aside0.mk hi191_0
    have HC191_0 := Aside0.mk hl191_0
    clear hi191_0 hl191_0
    replace p191 := eq_true p191
    replace q191 := eq_true q191
    obtain ⟨hcz19_0, hcz19_1, hfz19_0, hfz19_1⟩ := c2_ BK183.out
    go_wp2_with (first | ((with_reducible refine Zl (f := 77) rfl ?_); refine ZI (some 20) rfl rfl Try.func77 (by kernel_rfl) rfl #[.agg #[.int .i64 a0_0, .slice A0_1 l0_1.length c0_1], .slice A191_0 (rd_L2 x3_1 (ji12)).length c191_0] rfl (by (try simp only [List.map_toArray, List.map_cons, List.map_nil]); first | done | (simp only [hji12]; rfl) | rfl | (simp only [List.length_drop, List.length_take]; rfl)) ?_; (with_reducible refine (impl_DefendedBy.calls k1 a0_0 _ _ l0_1 _ _ (rd_L2 x3_1 (ji12)) t192 _ ?side1 ?side2 ?side3 ?side4 A15.out).mono ?_); (case side1 => exact cb_ HR0_1.out); (case side2 => exact HC0_1.out); (case side3 => exact sA_ (cf_ HR191_0.out)); (case side4 => exact HC191_0.out); rintro e w20 ⟨v193, rfl, ho0, hb⟩; refine ⟨_, rfl, ?_⟩; replace HO_3 := Aside0.mk (Kd.N_elder' (rN_ HO_3.out) (Kd.R_base ho0) hb); replace HL191_0 := Aside0.mk (Kd.V_elder' (by (with_reducible repeat (first | apply Kd.V_alloc | apply Kd.V_drewN | apply Kd.V_drew)); exact HL191_0.out) (Kd.R_base ho0) hb); have HO194 := Aside0.mk (Kd.R_lower (Kd.R_newM (M := fun k_ => (w.heap.size ≤ k_)) ho0 (Zm hB_) (fun k_ h_ => h_)) (Zm hB_)); replace BK183 := Aside0.mk (Zg (bq_ BK183.out) hb); replace HR191_0 := Aside0.mk (Kd.C_below (cf_ HR191_0.out) hb); replace HB := Aside0.mk (Zh hB_ hb); (try clear hb); (try clear ho0); obtain ⟨Ao21, co21, eo21⟩ := Kd.R_slice HO194.out; subst eo21) | ((with_reducible refine Zl (f := 76) rfl ?_); refine ZI (some 23) rfl rfl Try.func76 (by kernel_rfl) rfl #[.slice Ao21 t192.length co21, .slice A191_0 (rd_L2 x3_1 (ji12)).length c191_0] rfl (by (try simp only [List.map_toArray, List.map_cons, List.map_nil]); first | done | (simp only [hji12]; rfl) | rfl | (simp only [List.length_drop, List.length_take]; rfl)) ?_; (with_reducible refine (slices_Equal_int_int.calls k1 _ _ t192 _ _ (rd_L2 x3_1 (ji12)) true _ ?side1 ?side2 ?side3 ?side4 A16.out).mono ?_); (case side1 => exact sA_ (ZF HO194.out).2.2); (case side2 => exact (ZF HO194.out).2.1); (case side3 => exact sA_ (cf_ HR191_0.out)); (case side4 => exact HC191_0.out); rintro e w' ⟨rfl, ⟨nd, rfl⟩⟩; refine ⟨_, rfl, ?_⟩))
    go_ret
    exact ⟨_, by first | rfl | (simp [errW_none, errW_some] <;> rfl) | (simp only [← hji12]; first | rfl | (simp [errW_none, errW_some] <;> rfl)) | (simp [*, errW_none, errW_some] <;> rfl), by (with_reducible repeat (first | apply Kd.N_alloc | apply Kd.N_drewN | apply Kd.N_drew)); exact Kd.N_mono HO_3.out (fun _ hk => hk.1.1), hB_⟩
   replace c17 := Bool.eq_false_iff.mpr c17
   subst c17
   rw [if_neg (show ¬ (false = true) by decide)] at H
   try dsimp only at H
   by_cases c22 : x3_1.length < 5864062014805
   rotate_left
   ·rw [if_neg c22] at H
    exact absurd H (by simp)
   rw [if_pos c22] at H
   have LMc22 := Aside0.mk c22
   clear c22
   obtain ⟨y196, hy196⟩ : ∃ y_ : List (List Int), y_ = (x3_1 ++ [t192]) := ⟨_, rfl⟩
   replace H : (impl_rounds.l0 k1 y196 a0_0 l0_1) = some r := hy_ hy196 H
   have Ny196 := Aside0.mk hy196
   clear hy196
   have H' := Aside0.mk H
   clear H
   obtain ⟨Ao23, co23, eo23⟩ := Kd.N_slice HO_3.out
   subst eo23
   have p191 : 0 ≤ ((ji12) : Int) := of_decide_eq_true as_
   have q191 : (ji12) < (x3_1.length : Int) := of_decide_eq_true as_
   obtain ⟨ad191, A191_0, c191_0, e191, hx191_0, hl191_0, hi191_0⟩ := at_L2 (Kd.N_reads' HO_3.out).2.2 (ji12) p191 q191
   cases e191
   obtain ⟨ce191, hce191, hMe191, hcc191⟩ := Kd.N_get HO_3.out [] (ji12) p191 (by first | exact q191 | exact of_decide_eq_true as_ | (have e_ := (Kd.N_reads' HO_3.out).1; omega))
   obtain ⟨ua191_0, uc191_0, rfl, ul191_0, ge191_0⟩ := Kd.FK_slice_open hMe191
   have hv191_0 := hcc191 0 _ rfl
   rw [Nat.add_zero, show ((Kd.slice 3 (Kd.int .i64))).sz = 1 from rfl, Nat.mul_one] at hv191_0
   replace hv191_0 := Option.some.inj (hv191_0.symm.trans hx191_0)
   injection hv191_0 with hva_ hvn_ hvc_
   rw [hva_] at ge191_0
   rw [hvc_] at ul191_0
   have HL191_0 := Aside0.mk (show Kd.V (Kd.int .i64) 3 _ w.heap.size _ _ (rd_L2 x3_1 (ji12)) from Kd.V_mk ul191_0 ge191_0)
   clear hva_ hvn_ hvc_ ge191_0 ul191_0
   clear hcc191 hce191
   have HR191_0 := Aside0.mk hi191_0
   have HC191_0 := Aside0.mk hl191_0
   clear hi191_0 hl191_0
   replace p191 := eq_true p191
   replace q191 := eq_true q191
   obtain ⟨hcz24_0, hcz24_1, hfz24_0, hfz24_1⟩ := c2_ BK183.out
   go_wp2_with (first | ((with_reducible refine Zl (f := 77) rfl ?_); refine ZI (some 20) rfl rfl Try.func77 (by kernel_rfl) rfl #[.agg #[.int .i64 a0_0, .slice A0_1 l0_1.length c0_1], .slice A191_0 (rd_L2 x3_1 (ji12)).length c191_0] rfl (by (try simp only [List.map_toArray, List.map_cons, List.map_nil]); first | done | (simp only [hji12]; rfl) | rfl | (simp only [List.length_drop, List.length_take]; rfl)) ?_; (with_reducible refine (impl_DefendedBy.calls k1 a0_0 _ _ l0_1 _ _ (rd_L2 x3_1 (ji12)) t192 _ ?side1 ?side2 ?side3 ?side4 A15.out).mono ?_); (case side1 => exact cb_ HR0_1.out); (case side2 => exact HC0_1.out); (case side3 => exact sA_ (cf_ HR191_0.out)); (case side4 => exact HC191_0.out); rintro e w25 ⟨v193, rfl, ho0, hb⟩; refine ⟨_, rfl, ?_⟩; replace HO_3 := Aside0.mk (Kd.N_elder' (rN_ HO_3.out) (Kd.R_base ho0) hb); replace HL191_0 := Aside0.mk (Kd.V_elder' (by (with_reducible repeat (first | apply Kd.V_alloc | apply Kd.V_drewN | apply Kd.V_drew)); exact HL191_0.out) (Kd.R_base ho0) hb); have HO194 := Aside0.mk (Kd.R_lower (Kd.R_newM (M := fun k_ => (w.heap.size ≤ k_)) ho0 (Zm hB_) (fun k_ h_ => h_)) (Zm hB_)); replace BK183 := Aside0.mk (Zg (bq_ BK183.out) hb); replace HR191_0 := Aside0.mk (Kd.C_below (cf_ HR191_0.out) hb); replace HB := Aside0.mk (Zh hB_ hb); (try clear hb); (try clear hk); (try clear ho0); obtain ⟨Ao26, co26, eo26⟩ := Kd.R_slice HO194.out; subst eo26) | ((with_reducible refine Zl (f := 76) rfl ?_); refine ZI (some 23) rfl rfl Try.func76 (by kernel_rfl) rfl #[.slice Ao26 t192.length co26, .slice A191_0 (rd_L2 x3_1 (ji12)).length c191_0] rfl (by (try simp only [List.map_toArray, List.map_cons, List.map_nil]); first | done | (simp only [hji12]; rfl) | rfl | (simp only [List.length_drop, List.length_take]; rfl)) ?_; (with_reducible refine (slices_Equal_int_int.calls k1 _ _ t192 _ _ (rd_L2 x3_1 (ji12)) false _ ?side1 ?side2 ?side3 ?side4 A16.out).mono ?_); (case side1 => exact sA_ (ZF HO194.out).2.2); (case side2 => exact (ZF HO194.out).2.1); (case side3 => exact sA_ (cf_ HR191_0.out)); (case side4 => exact HC191_0.out); rintro e w' ⟨rfl, ⟨nd, rfl⟩⟩; refine ⟨_, rfl, ?_⟩) | ((with_reducible refine gate_builtin (b := .append) (xs := #[.tmp 25, .tmp 27]) rfl ?_); at_builtin; refine Kd.N_append (Kd.slice 3 (Kd.int .i64)) (w0 := w) w.heap.size rfl (.tmp 25) (.tmp 27) 22 31 (.slice none 0 0) 24 rfl Try.underlying22 info31 rfl (by decide) (by omega) (.slice (some ad191) x3_1.length co23) x3_1 t192 [.slice Ao26 t192.length co26] (fun k_ => (w.heap.size ≤ k_) ∧ k_ ≠ gb183) (fun k_ => ((fun k_ => (w.heap.size ≤ k_) ∧ k_ ≠ gb183)) k_ ∧ some k_ ≠ (.slice (some ad191) x3_1.length co23 : Value).ownBlock) rfl rfl ?aP (fun _ hk => hk) ?aF ?aO ?aB ?aS ?aL ?_; (case aP => exact (Kd.FK_slice_mk (ZF (Zw (ok' := (fun k_ => ((fun k_ => (w.heap.size ≤ k_) ∧ k_ ≠ gb183)) k_ ∧ some k_ ≠ (.slice (some ad191) x3_1.length co23 : Value).ownBlock)) (Kd.R_types (Kd.R_apart' (HO194.out) (Kd.N_typed HO_3.out) (by decide)) BK183.out (by decide)) (fun k_ hk => ⟨⟨hk.1.1.1, hk.2⟩, hk.1.2⟩))).2.1 (Kd.R_F (Zw (ok' := (fun k_ => ((fun k_ => (w.heap.size ≤ k_) ∧ k_ ≠ gb183)) k_ ∧ some k_ ≠ (.slice (some ad191) x3_1.length co23 : Value).ownBlock)) (Kd.R_types (Kd.R_apart' (HO194.out) (Kd.N_typed HO_3.out) (by decide)) BK183.out (by decide)) (fun k_ hk => ⟨⟨hk.1.1.1, hk.2⟩, hk.1.2⟩))))); (case aB => exact hB_); (case aF => exact (fun k_ hk => ⟨(Nat.le_trans (Zm hB_) hk), Kd.freshB (bq_ BK183.out) k_ hk⟩)); (case aO => exact (by (with_reducible repeat (first | apply Kd.N_alloc | apply Kd.N_drewN | apply Kd.N_drew)); exact Kd.N_mono HO_3.out (fun _ hk => ⟨hk.1.1, hk.1.2⟩))); (case aS => exact (Zm hB_)); (case aL => have := LMc22.out; omega); intro v197 w27 ho hb hg hat; rw [← Ny196.out] at ho; have n0_ := Aside0.mk (ZT (bq_ BK183.out) hg (Kd.N_ne HO_3.out BK183.out (by decide))); have n1_ := Aside0.mk (Kd.V_afterv (ok := (fun k_ => (w.heap.size ≤ k_) ∧ some k_ ≠ (.slice Ao26 t192.length co26 : Value).ownBlock ∧ k_ ≠ gb183)) (by (with_reducible repeat (first | apply Kd.V_alloc | apply Kd.V_drewN | apply Kd.V_drew)); exact Kd.V_mono HL191_0.out (fun _ hk => ⟨⟨hk.1.1.1, ⟨hk.2, hk.1.1.2⟩⟩, hk.1.2⟩)) hg hat); have n2_ := Aside0.mk (hb); have n3_ := Aside0.mk (ho); clear BK183; clear HL191_0; clear HB; clear HO_3; clear HO194; have BK183 := n0_; have HL191_0 := n1_; have HB := n2_; have HO198 := n3_; clear n0_ n1_ n2_ n3_; clear ho hb hg hat))
   go_roundg k1
   case measure => have := HK1.out; omega
   case rel => exact ⟨(y196), H', ⟨by have := HK1.out; omega⟩, ⟨rN_ HO198.out⟩, ⟨bk_ BK183.out⟩, ⟨hB_⟩⟩

/-! ### impl_Grounded: function 27 -/
def impl_Grounded.f (k : Nat) (a0_0 : Int) (l0_1 : List (List Int)) : Option (List Int) := (impl_rounds.f k a0_0 l0_1).bind fun t200 => (if 0 ≤ (wrap64 ((t200.length : Int) - 1)) then (if (wrap64 ((t200.length : Int) - 1)) < (t200.length : Int) then (some (rd_L2 t200 (wrap64 ((t200.length : Int) - 1)))) else (none)) else (none))
theorem impl_Grounded.mono : ∀ a0 a1 k, LeO (impl_Grounded.f k a0 a1) (impl_Grounded.f (k + 1) a0 a1) := by
 intro a0 a1 k
 unfold impl_Grounded.f
 repeat' with_reducible first | apply impl_rounds.mono | apply ZJ | apply Zn | refine Zu ?_ ?_ | refine Zo ?_ (fun _ => ?_)
theorem impl_Grounded.calls (k : Nat) (a0_0 : Int) (A0_1 : Option Addr) (c0_1 : Nat) (l0_1 : List (List Int)) (r : List Int) (w : World) (hr0_1 : Kd.C (Kd.slice 3 (Kd.int .i64)) w A0_1 l0_1.length l0_1) (hc0_1 : l0_1.length ≤ c0_1) (h : impl_Grounded.f k a0_0 l0_1 = some r) :
  Calls Try.prog 27 #[.agg #[.int .i64 a0_0, .slice A0_1 l0_1.length c0_1]] w fun e w' => ∃ v0_ : Value, e = .returned (v0_) ∧ Kd.V (Kd.int .i64) 3 w' w.heap.size (fun k_ => (w.heap.size ≤ k_)) v0_ r ∧ Below w.heap.size w w' := by
 have hu27 := Try.underlying27
 have HR0_1 := Aside0.mk hr0_1
 have HC0_1 := Aside0.mk hc0_1
 clear hr0_1 hc0_1
 have HB := Aside0.mk (Below.refl w.heap.size w)
 have H := h
 unfold impl_Grounded.f at H
 clear h
 obtain ⟨t200, A2, H⟩ := bd_ H
 try dsimp only at H
 obtain ⟨ji3, hji3⟩ : ∃ j_ : Int, (wrap64 ((t200.length : Int) - 1)) = j_ := ⟨_, rfl⟩
 replace H : (if 0 ≤ (ji3) then (if (ji3) < (t200.length : Int) then (some (rd_L2 t200 (ji3))) else (none)) else (none)) = some r := by first | (rw [hji3] at H; exact H) | (simp only [hji3] at H ⊢; exact H)
 (try rw [hji3] at A2)
 have hji3w : (IntKind.i64.wrap ((t200.length : Int) - 1)) = ji3 := (i64_w _).trans hji3
 by_cases c4 : 0 ≤ (ji3)
 rotate_left
 ·rw [if_neg c4] at H
  exact absurd H (by simp)
 rw [if_pos c4] at H
 have c4b0 : decide (0 ≤ (ji3)) = true := decide_eq_true c4
 clear c4
 by_cases c5 : (ji3) < (t200.length : Int)
 rotate_left
 ·rw [if_neg c5] at H
  exact absurd H (by simp)
 rw [if_pos c5] at H
 have c5b0 : decide ((ji3) < (t200.length : Int)) = true := decide_eq_true c5
 clear c5
 obtain rfl := Option.some.inj H
 go_enter Try.func27, Try.ntmps27
 go_wp2_with (first | ((with_reducible refine ZA (N := 1) rfl ?_); refine ZC ?hg (N := 1) ?hd (cs := #[.int .i64 a0_0, .slice A0_1 l0_1.length c0_1]) (t := 27) ?hr ?_; (case hd => rfl); (case hg => rfl); (case hr => first | (go_simp; done) | (go_simp; rfl)); intro gb199 hg w6 hbox hb; have BK199 := Aside0.mk (hbox); have GW199 := Aside0.mk ((hz_ hg : w.heap.size ≤ gb199)); have GE199 := Aside0.mk ((hz_ hg : w.heap.size ≤ gb199)); replace HB := Aside0.mk (Zh hB_ hb); clear hb hbox hg; obtain ⟨hcz7_0, hcz7_1, hfz7_0, hfz7_1⟩ := c2_ BK199.out; (try clear BK199)) | ((with_reducible refine Zl (f := 78) rfl ?_); refine ZI (some 5) rfl rfl Try.func78 (by kernel_rfl) rfl #[.agg #[.int .i64 a0_0, .slice A0_1 l0_1.length c0_1]] rfl ar_ ?_; (with_reducible refine (impl_rounds.calls k a0_0 _ _ l0_1 t200 _ ?side1 ?side2 A2.out).mono ?_); (case side1 => exact cb_ HR0_1.out); (case side2 => exact HC0_1.out); rintro e w8 ⟨v201, rfl, ho0, hb⟩; refine ⟨_, rfl, ?_⟩; have HO202 := Aside0.mk (Kd.N_lower (Kd.N_mono (ok' := fun k_ => (w.heap.size ≤ k_)) ho0 (fun k_ hk_ => (Nat.le_trans (Zm hB_) hk_))) (Zm hB_)); replace HB := Aside0.mk (Zh hB_ hb); (try clear hb); (try clear ho0); obtain ⟨Ao9, co9, eo9⟩ := Kd.N_slice HO202.out; subst eo9; have p203 : 0 ≤ ((ji3) : Int) := of_decide_eq_true as_; have q203 : (ji3) < (t200.length : Int) := of_decide_eq_true as_; obtain ⟨ad203, A203_0, c203_0, e203, hx203_0, hl203_0, hi203_0⟩ := at_L2 (Kd.N_reads' HO202.out).2.2 (ji3) p203 q203; cases e203; obtain ⟨ce203, hce203, hMe203, hcc203⟩ := Kd.N_get HO202.out [] (ji3) p203 (by first | exact q203 | exact of_decide_eq_true as_ | (have e_ := (Kd.N_reads' HO202.out).1; omega)); obtain ⟨ua203_0, uc203_0, rfl, ul203_0, ge203_0⟩ := Kd.FK_slice_open hMe203; have hv203_0 := hcc203 0 _ rfl; rw [Nat.add_zero, show ((Kd.slice 3 (Kd.int .i64))).sz = 1 from rfl, Nat.mul_one] at hv203_0; replace hv203_0 := Option.some.inj (hv203_0.symm.trans hx203_0); injection hv203_0 with hva_ hvn_ hvc_; rw [hva_] at ge203_0; rw [hvc_] at ul203_0; have HL203_0 := Aside0.mk (show Kd.V (Kd.int .i64) 3 _ w.heap.size _ _ (rd_L2 t200 (ji3)) from Kd.V_mk ul203_0 ge203_0); clear hva_ hvn_ hvc_ ge203_0 ul203_0; clear hcc203 hce203; have HR203_0 := Aside0.mk hi203_0; have HC203_0 := Aside0.mk hl203_0; clear hi203_0 hl203_0; replace p203 := eq_true p203; replace q203 := eq_true q203))
 go_ret
 exact ⟨_, by first | rfl | (simp [errW_none, errW_some] <;> rfl) | (simp only [← hji3]; first | rfl | (simp [errW_none, errW_some] <;> rfl)) | (simp [*, errW_none, errW_some] <;> rfl), by (with_reducible repeat (first | apply Kd.V_alloc | apply Kd.V_drewN | apply Kd.V_drew)); exact Kd.V_mono HL203_0.out (fun _ hk => hk.1), hB_⟩

/-! ### laws_sameInts: function 28 -/
def laws_sameInts.l0 : Nat → List Int → List Int → Int → Option (Bool)
 | 0, _, _, _ => none
 | k + 1, x0, x1, x5 => if x5 < (x0.length : Int) then (if 0 ≤ x5 then (if x5 < (x1.length : Int) then (if (rd x0 x5) = (rd x1 x5) then (laws_sameInts.l0 k x0 x1 (wrap64 (x5 + 1))) else (some false)) else (none)) else (none)) else (some true)
def laws_sameInts.f (k : Nat) (l0 : List Int) (l1 : List Int) : Option (Bool) := if (l0.length : Int) = (l1.length : Int) then (laws_sameInts.l0 k l0 l1 0) else (some false)
theorem laws_sameInts.mono_l : ∀ k, (∀ y0 y1 y2, LeO (laws_sameInts.l0 k y0 y1 y2) (laws_sameInts.l0 (k + 1) y0 y1 y2))
 | 0 => fun _ _ _ r h => by simp [laws_sameInts.l0] at h
 | k + 1 => by
  have ih0 := laws_sameInts.mono_l k
  ·intro y0 y1 y2
   unfold laws_sameInts.l0
   repeat' with_reducible first | apply ih0 | apply ZJ | apply Zn | refine Zu ?_ ?_ | refine Zo ?_ (fun _ => ?_)
theorem laws_sameInts.mono : ∀ a0 a1 k, LeO (laws_sameInts.f k a0 a1) (laws_sameInts.f (k + 1) a0 a1) := by
 intro a0 a1 k
 have ih0 := laws_sameInts.mono_l k
 unfold laws_sameInts.f
 repeat' with_reducible first | apply ih0 | apply ZJ | apply Zn | refine Zu ?_ ?_ | refine Zo ?_ (fun _ => ?_)
theorem laws_sameInts.calls (k : Nat) (A0 : Option Addr) (c0 : Nat) (l0 : List Int) (A1 : Option Addr) (c1 : Nat) (l1 : List Int) (r : Bool) (w : World) (hr0 : Kd.C (Kd.int .i64) w A0 l0.length l0) (hc0 : l0.length ≤ c0) (hr1 : Kd.C (Kd.int .i64) w A1 l1.length l1) (hc1 : l1.length ≤ c1) (h : laws_sameInts.f k l0 l1 = some r) :
  Calls Try.prog 28 #[.slice A0 l0.length c0, .slice A1 l1.length c1] w fun e w' => e = .returned (.bool r) ∧ Drawn0 w w' := by
 have HR0 := Aside0.mk hr0
 have HC0 := Aside0.mk hc0
 clear hr0 hc0
 have HR1 := Aside0.mk hr1
 have HC1 := Aside0.mk hc1
 clear hr1 hc1
 have H := h
 unfold laws_sameInts.f at H
 clear h
 by_cases c3 : (l0.length : Int) = (l1.length : Int)
 rotate_left
 ·rw [if_neg c3] at H
  have c3b0 : ((l0.length : Int) == (l1.length : Int)) = false := beq_eq_false_iff_ne.mpr c3
  have c3b1 : ((l0.length : Int) != (l1.length : Int)) = true := bne_iff_ne.mpr c3
  have c3b2 : (l0.length == l1.length) = false := by first | simpa using c3 | (simp at c3 ⊢; omega)
  obtain rfl := Option.some.inj H
  go_enter Try.func28, Try.ntmps28
  go_wp2
  repeat (go_quiet (fail); try go_wp2)
  go_ret
  exact ⟨sm_, dr_⟩
 rw [if_pos c3] at H
 have c3b0 : ((l0.length : Int) == (l1.length : Int)) = true := beq_iff_eq.mpr c3
 have c3b1 : ((l0.length : Int) != (l1.length : Int)) = false := bne_eq_false_iff_eq.mpr c3
 have c3b2 : (l0.length == l1.length) = true := by first | simpa using c3 | (simp at c3 ⊢; omega)
 clear c3
 have H' := Aside0.mk H
 clear H
 go_enter Try.func28, Try.ntmps28
 go_wp2
 repeat (go_quiet (fail); try go_wp2)
 go_loopg [5] k (fun kq v5 w' => ∃ (x5_1 : Int), v5 = .int .i64 x5_1 ∧ Aside0 (laws_sameInts.l0 kq l0 l1 x5_1 = some r) ∧ Aside0 (kq ≤ k) ∧ Drawn0 w w')
 case atStart => exact ⟨(0), sm_, H', ⟨Nat.le_refl _⟩, dr_⟩
 case round =>
  clear H'
  try clear c1
  try clear c2
  try clear p2
  try clear c3
  try clear c3b0
  try clear c3b1
  try clear c3b2
  obtain ⟨x5_1, rfl, HA, HK1, ⟨m1, rfl⟩⟩ := hrel
  cases gk with
  | zero => exact absurd HA.out (by simp [laws_sameInts.l0])
  | succ k1 =>
   have H := HA.out
   clear HA
   simp only [laws_sameInts.l0] at H
   by_cases c4 : x5_1 < (l0.length : Int)
   rotate_left
   ·rw [if_neg c4] at H
    have c4b0 : decide (x5_1 < (l0.length : Int)) = false := decide_eq_false c4
    clear c4
    obtain rfl := Option.some.inj H
    go_wp2
    repeat (go_quiet (fail); try go_wp2)
    go_ret
    exact ⟨sm_, dr_⟩
   rw [if_pos c4] at H
   have c4b0 : decide (x5_1 < (l0.length : Int)) = true := decide_eq_true c4
   clear c4
   by_cases c5 : 0 ≤ x5_1
   rotate_left
   ·rw [if_neg c5] at H
    exact absurd H (by simp)
   rw [if_pos c5] at H
   have c5b0 : decide (0 ≤ x5_1) = true := decide_eq_true c5
   clear c5
   by_cases c6 : x5_1 < (l1.length : Int)
   rotate_left
   ·rw [if_neg c6] at H
    exact absurd H (by simp)
   rw [if_pos c6] at H
   have c6b0 : decide (x5_1 < (l1.length : Int)) = true := decide_eq_true c6
   clear c6
   by_cases c7 : (rd l0 x5_1) = (rd l1 x5_1)
   rotate_left
   ·rw [if_neg c7] at H
    have c7b0 : ((rd l0 x5_1) == (rd l1 x5_1)) = false := beq_eq_false_iff_ne.mpr c7
    have c7b1 : ((rd l0 x5_1) != (rd l1 x5_1)) = true := bne_iff_ne.mpr c7
    obtain rfl := Option.some.inj H
    have p204 : 0 ≤ (x5_1 : Int) := of_decide_eq_true as_
    have q204 : x5_1 < (l0.length : Int) := of_decide_eq_true as_
    obtain ⟨ad204, e204, hx204_0⟩ := Zx HR0.out x5_1 p204 q204
    cases e204
    replace p204 := eq_true p204
    replace q204 := eq_true q204
    have p205 : 0 ≤ (x5_1 : Int) := of_decide_eq_true as_
    have q205 : x5_1 < (l1.length : Int) := of_decide_eq_true as_
    obtain ⟨ad205, e205, hx205_0⟩ := Zx HR1.out x5_1 p205 q205
    cases e205
    replace p205 := eq_true p205
    replace q205 := eq_true q205
    go_wp2
    repeat (go_quiet (fail); try go_wp2)
    go_ret
    exact ⟨sm_, dr_⟩
   rw [if_pos c7] at H
   have c7b0 : ((rd l0 x5_1) == (rd l1 x5_1)) = true := beq_iff_eq.mpr c7
   have c7b1 : ((rd l0 x5_1) != (rd l1 x5_1)) = false := bne_eq_false_iff_eq.mpr c7
   clear c7
   have H' := Aside0.mk H
   clear H
   have p204 : 0 ≤ (x5_1 : Int) := of_decide_eq_true as_
   have q204 : x5_1 < (l0.length : Int) := of_decide_eq_true as_
   obtain ⟨ad204, e204, hx204_0⟩ := Zx HR0.out x5_1 p204 q204
   cases e204
   replace p204 := eq_true p204
   replace q204 := eq_true q204
   have p205 : 0 ≤ (x5_1 : Int) := of_decide_eq_true as_
   have q205 : x5_1 < (l1.length : Int) := of_decide_eq_true as_
   obtain ⟨ad205, e205, hx205_0⟩ := Zx HR1.out x5_1 p205 q205
   cases e205
   replace p205 := eq_true p205
   replace q205 := eq_true q205
   go_wp2
   repeat (go_quiet (fail); try go_wp2)
   go_roundg k1
   case measure => have := HK1.out; omega
   case rel => exact ⟨(wrap64 (x5_1 + 1)), sm_, H', ⟨by have := HK1.out; omega⟩, dr_⟩

/-! ### laws_contains: function 30 -/
def laws_contains.l0 : Nat → List Int → Int → Int → Option (Bool)
 | 0, _, _, _ => none
 | k + 1, x0, x1, x5 => if x5 < (x0.length : Int) then (if 0 ≤ x5 then (if (rd x0 x5) = x1 then (some true) else (laws_contains.l0 k x0 x1 (wrap64 (x5 + 1)))) else (none)) else (some false)
def laws_contains.f (k : Nat) (l0 : List Int) (a1 : Int) : Option (Bool) := laws_contains.l0 k l0 a1 0
theorem laws_contains.mono_l : ∀ k, (∀ y0 y1 y2, LeO (laws_contains.l0 k y0 y1 y2) (laws_contains.l0 (k + 1) y0 y1 y2))
 | 0 => fun _ _ _ r h => by simp [laws_contains.l0] at h
 | k + 1 => by
  have ih0 := laws_contains.mono_l k
  ·intro y0 y1 y2
   unfold laws_contains.l0
   repeat' with_reducible first | apply ih0 | apply ZJ | apply Zn | refine Zu ?_ ?_ | refine Zo ?_ (fun _ => ?_)
theorem laws_contains.mono : ∀ a0 a1 k, LeO (laws_contains.f k a0 a1) (laws_contains.f (k + 1) a0 a1) := by
 intro a0 a1 k
 have ih0 := laws_contains.mono_l k
 unfold laws_contains.f
 repeat' with_reducible first | apply ih0 | apply ZJ | apply Zn | refine Zu ?_ ?_ | refine Zo ?_ (fun _ => ?_)
theorem laws_contains.calls (k : Nat) (A0 : Option Addr) (c0 : Nat) (l0 : List Int) (a1 : Int) (r : Bool) (w : World) (hr0 : Kd.C (Kd.int .i64) w A0 l0.length l0) (hc0 : l0.length ≤ c0) (h : laws_contains.f k l0 a1 = some r) :
  Calls Try.prog 30 #[.slice A0 l0.length c0, .int .i64 a1] w fun e w' => e = .returned (.bool r) ∧ Drawn0 w w' := by
 have HR0 := Aside0.mk hr0
 have HC0 := Aside0.mk hc0
 clear hr0 hc0
 have H := h
 unfold laws_contains.f at H
 clear h
 have H' := Aside0.mk H
 clear H
 go_enter Try.func30, Try.ntmps30
 go_wp2
 go_loopg [5] k (fun kq v5 w' => ∃ (x5_1 : Int), v5 = .int .i64 x5_1 ∧ Aside0 (laws_contains.l0 kq l0 a1 x5_1 = some r) ∧ Aside0 (kq ≤ k) ∧ Drawn0 w w')
 case atStart => exact ⟨(0), sm_, H', ⟨Nat.le_refl _⟩, dr_⟩
 case round =>
  clear H'
  try clear p2
  obtain ⟨x5_1, rfl, HA, HK1, ⟨m1, rfl⟩⟩ := hrel
  cases gk with
  | zero => exact absurd HA.out (by simp [laws_contains.l0])
  | succ k1 =>
   have H := HA.out
   clear HA
   simp only [laws_contains.l0] at H
   by_cases c3 : x5_1 < (l0.length : Int)
   rotate_left
   ·rw [if_neg c3] at H
    have c3b0 : decide (x5_1 < (l0.length : Int)) = false := decide_eq_false c3
    clear c3
    obtain rfl := Option.some.inj H
    go_wp2
    go_ret
    exact ⟨sm_, dr_⟩
   rw [if_pos c3] at H
   have c3b0 : decide (x5_1 < (l0.length : Int)) = true := decide_eq_true c3
   clear c3
   by_cases c4 : 0 ≤ x5_1
   rotate_left
   ·rw [if_neg c4] at H
    exact absurd H (by simp)
   rw [if_pos c4] at H
   have c4b0 : decide (0 ≤ x5_1) = true := decide_eq_true c4
   clear c4
   by_cases c5 : (rd l0 x5_1) = a1
   ·rw [if_pos c5] at H
    have c5b0 : ((rd l0 x5_1) == a1) = true := beq_iff_eq.mpr c5
    have c5b1 : ((rd l0 x5_1) != a1) = false := bne_eq_false_iff_eq.mpr c5
    clear c5
    obtain rfl := Option.some.inj H
    have p206 : 0 ≤ (x5_1 : Int) := of_decide_eq_true as_
    have q206 : x5_1 < (l0.length : Int) := of_decide_eq_true as_
    obtain ⟨ad206, e206, hx206_0⟩ := Zx HR0.out x5_1 p206 q206
    cases e206
    replace p206 := eq_true p206
    replace q206 := eq_true q206
    go_wp2
    go_ret
    exact ⟨sm_, dr_⟩
   rw [if_neg c5] at H
   have c5b0 : ((rd l0 x5_1) == a1) = false := beq_eq_false_iff_ne.mpr c5
   have c5b1 : ((rd l0 x5_1) != a1) = true := bne_iff_ne.mpr c5
   have H' := Aside0.mk H
   clear H
   have p206 : 0 ≤ (x5_1 : Int) := of_decide_eq_true as_
   have q206 : x5_1 < (l0.length : Int) := of_decide_eq_true as_
   obtain ⟨ad206, e206, hx206_0⟩ := Zx HR0.out x5_1 p206 q206
   cases e206
   replace p206 := eq_true p206
   replace q206 := eq_true q206
   go_wp2
   go_roundg k1
   case measure => have := HK1.out; omega
   case rel => exact ⟨(wrap64 (x5_1 + 1)), sm_, H', ⟨by have := HK1.out; omega⟩, dr_⟩

/-- A state of type 93 at block g of W; what its slices lead to came in by w0. -/
def IsS93 (w0 W : World) (g : Nat) (f0 : List Int) (f1 : Int) (f2 : Int) : Prop := ∃ A0 c0, W.heap[g]? = some (.cells #[.slice A0 f0.length c0, .int .i64 f1, .int .i64 f2] 93 (0, 0)) ∧ w0.heap.size ≤ g ∧ Kd.C (Kd.int .u8) w0 A0 f0.length f0
theorem IsS93.grown {w0 W : World} {g : Nat} {f0 : List Int} {f1 : Int} {f2 : Int} {W1 : World} {row : Option Nat} (h : IsS93 w0 W g f0 f1 f2) (hw : W.grownBy W1 row) (hne : some g ≠ row) : IsS93 w0 W1 g f0 f1 f2 := by
 obtain ⟨A0, c0, hb, hg, hr0⟩ := h
 exact ⟨A0, c0, ZT hb hw hne, hg, hr0⟩
theorem IsS93.own_neN {w0 W : World} {g : Nat} {f0 : List Int} {f1 : Int} {f2 : Int} {α : Type} {d : Kd α} {e : Nat} {base : Nat} {ok : Nat → Prop} {v : Value} {xs : List α} (h : IsS93 w0 W g f0 f1 f2) (ho : Kd.N d e W base ok v xs) (ht : e ≠ 93) : some g ≠ v.ownBlock := by
 obtain ⟨A0, c0, hb, hg, hr0⟩ := h
 exact Kd.N_ne ho hb ht
theorem IsS93.fresh {w0 W : World} {g : Nat} {f0 : List Int} {f1 : Int} {f2 : Int} (h : IsS93 w0 W g f0 f1 f2) : ∀ k, W.heap.size ≤ k → k ≠ g := by
 obtain ⟨A0, c0, hb, hg, hr0⟩ := h
 exact Kd.freshB hb
theorem IsS93.kept {w0 W : World} {g : Nat} {f0 : List Int} {f1 : Int} {f2 : Int} {W1 : World} {S : Nat → Prop} (h : IsS93 w0 W g f0 f1 f2) (hk : Kept W W1 S) (hne : ¬ S g) : IsS93 w0 W1 g f0 f1 f2 := by
 obtain ⟨A0, c0, hb, hg, hr0⟩ := h
 exact ⟨A0, c0, blk_kept hb hk hne, hg, hr0⟩
theorem IsS93.below {w0 W : World} {g : Nat} {f0 : List Int} {f1 : Int} {f2 : Int} {W1 : World} (h : IsS93 w0 W g f0 f1 f2) (hw : Below W.heap.size W W1) : IsS93 w0 W1 g f0 f1 f2 := h.grown (grown_of_below hw none) (by simp)
theorem IsS93.alloc {w0 W : World} {g : Nat} {f0 : List Int} {f1 : Int} {f2 : Int} (h : IsS93 w0 W g f0 f1 f2) (o : Obj) : IsS93 w0 (W.alloc o) g f0 f1 f2 := h.below (Zk (Below.refl _ _) o)
theorem IsS93.drewN {w0 W : World} {g : Nat} {f0 : List Int} {f1 : Int} {f2 : Int} (h : IsS93 w0 W g f0 f1 f2) (m : Nat) : IsS93 w0 (W.drewN m) g f0 f1 f2 := h
theorem IsS93.drew {w0 W : World} {g : Nat} {f0 : List Int} {f1 : Int} {f2 : Int} (h : IsS93 w0 W g f0 f1 f2) : IsS93 w0 W.drew g f0 f1 f2 := h
theorem IsS93.at_ {w0 W : World} {g : Nat} {f0 : List Int} {f1 : Int} {f2 : Int} {w' : World} {m : Nat} (hq : W.drewN m = w') (h : IsS93 w0 W g f0 f1 f2) : IsS93 w0 w' g f0 f1 f2 := by subst hq; exact IsS93.drewN h m
theorem IsS93.apart {w0 W : World} {g : Nat} {f0 : List Int} {f1 : Int} {f2 : Int} {α : Type} {d : Kd α} {e : Nat} {base : Nat} {ok : Nat → Prop} {v : Value} {xs : List α} (h : IsS93 w0 W g f0 f1 f2) (ho : d.R e W base ok v xs) (ht : ∀ q, q ∈ e :: d.E → q ≠ 93) : d.R e W base (fun k => ok k ∧ k ≠ g) v xs := by
 obtain ⟨A0, c0, hb, hg, hr0⟩ := h
 exact Kd.R_types ho hb ht
theorem IsS93.own_ne {w0 W : World} {g : Nat} {f0 : List Int} {f1 : Int} {f2 : Int} {α : Type} {d : Kd α} {e : Nat} {base : Nat} {ok : Nat → Prop} {v : Value} {xs : List α} (h : IsS93 w0 W g f0 f1 f2) (ho : d.R e W base ok v xs) (ht : e ≠ 93) : some g ≠ v.ownBlock := by
 obtain ⟨A0, c0, hb, hg, hr0⟩ := h
 exact Kd.R_ne ho hb ht
theorem IsS93.apartQ {w0 W : World} {g : Nat} {f0 : List Int} {f1 : Int} {f2 : Int} {α : Type} {d : Kd α} {e : Nat} {base : Nat} {ok : Nat → Prop} {v : Value} {xs : List α} (h : IsS93 w0 W g f0 f1 f2) (ho : d.Q e W base ok v xs) (ht : ∀ q, q ∈ e :: d.E → q ≠ 93) : d.Q e W base (fun k => ok k ∧ k ≠ g) v xs := by
 obtain ⟨A0, c0, hb, hg, hr0⟩ := h
 exact Kd.Q_types ho hb ht
theorem IsS93.own_neQ {w0 W : World} {g : Nat} {f0 : List Int} {f1 : Int} {f2 : Int} {α : Type} {d : Kd α} {e : Nat} {base : Nat} {ok : Nat → Prop} {v : Value} {xs : List α} (h : IsS93 w0 W g f0 f1 f2) (ho : d.Q e W base ok v xs) (ht : e ≠ 93) : some g ≠ v.ownBlock := by
 obtain ⟨A0, c0, hb, hg, hr0⟩ := h
 exact Kd.Q_ne ho hb ht
theorem IsS93.apartS {w0 W : World} {g : Nat} {f0 : List Int} {f1 : Int} {f2 : Int} {α : Type} {d : Kd α} {e : Nat} {base : Nat} {ok : Nat → Prop} {v : Value} {xs : List α} (h : IsS93 w0 W g f0 f1 f2) (ho : d.S e W base ok v xs) (ht : ∀ q, q ∈ e :: d.E → q ≠ 93) : d.S e W base (fun k => ok k ∧ k ≠ g) v xs := by
 obtain ⟨A0, c0, hb, hg, hr0⟩ := h
 exact Zv ho hb ht
theorem IsS93.own_neS {w0 W : World} {g : Nat} {f0 : List Int} {f1 : Int} {f2 : Int} {α : Type} {d : Kd α} {e : Nat} {base : Nat} {ok : Nat → Prop} {v : Value} {xs : List α} (h : IsS93 w0 W g f0 f1 f2) (ho : d.S e W base ok v xs) (ht : e ≠ 93) : some g ≠ v.ownBlock := by
 obtain ⟨A0, c0, hb, hg, hr0⟩ := h
 exact Kd.S_ne ho hb ht
theorem IsS93.lt {w0 W : World} {g : Nat} {f0 : List Int} {f1 : Int} {f2 : Int} (h : IsS93 w0 W g f0 f1 f2) : g < W.heap.size := by
 obtain ⟨A0, c0, hb, hg, hr0⟩ := h
 exact ZS hb
theorem IsS93.ge {w0 W : World} {g : Nat} {f0 : List Int} {f1 : Int} {f2 : Int} (h : IsS93 w0 W g f0 f1 f2) : w0.heap.size ≤ g := by
 obtain ⟨A0, c0, hb, hg, hr0⟩ := h
 exact hg
theorem IsS93.ne_blk {w0 W : World} {g : Nat} {f0 : List Int} {f1 : Int} {f2 : Int} {a : Nat} {cs : Array Value} {t : TypeId} {fr : Nat × Nat} (h : IsS93 w0 W g f0 f1 f2) (hb2 : W.heap[a]? = some (.cells cs t fr)) (ht : t ≠ 93) : g ≠ a := by
 obtain ⟨A0, c0, hb, hg, hr0⟩ := h
 rintro rfl
 rw [hb] at hb2
 injection hb2 with hb2
 injection hb2 with _ ht2
 exact ht ht2.symm
theorem IsS93.far {w0 W : World} {g : Nat} {f0 : List Int} {f1 : Int} {f2 : Int} {p : Addr} (h : IsS93 w0 W g f0 f1 f2) (hne : g ≠ p.block) (u : Value) : IsS93 w0 (W.setCell p u) g f0 f1 f2 := by
 obtain ⟨A0, c0, hb, hg, hr0⟩ := h
 exact ⟨A0, c0, ZG hb hne u, hg, hr0⟩
theorem cellS93_0 {W : World} {g : Nat} {A0 : Option Addr} {c0 : Nat} {f0 : List Int} {f1 : Int} {f2 : Int} (h : W.heap[g]? = some (.cells #[.slice A0 f0.length c0, .int .i64 f1, .int .i64 f2] 93 (0, 0))) : W.cell? ⟨g, 0, none⟩ = some (.slice A0 f0.length c0) := (Za h 0).trans rfl
theorem cellS93_1 {W : World} {g : Nat} {A0 : Option Addr} {c0 : Nat} {f0 : List Int} {f1 : Int} {f2 : Int} (h : W.heap[g]? = some (.cells #[.slice A0 f0.length c0, .int .i64 f1, .int .i64 f2] 93 (0, 0))) : W.cell? ⟨g, 1, none⟩ = some (.int .i64 f1) := (Za h 1).trans rfl
theorem IsS93.set_1 {w0 W : World} {g : Nat} {f0 : List Int} {f1 : Int} {f2 : Int} (h : IsS93 w0 W g f0 f1 f2) (x : Int) : IsS93 w0 (W.setCell ⟨g, 1, none⟩ (.int .i64 x)) g f0 x f2 := by
 obtain ⟨A0, c0, hb, hg, hr0⟩ := h
 exact ⟨A0, c0, by simpa using blk_set hb 1 (.int .i64 x), hg, hr0⟩
theorem cellS93_2 {W : World} {g : Nat} {A0 : Option Addr} {c0 : Nat} {f0 : List Int} {f1 : Int} {f2 : Int} (h : W.heap[g]? = some (.cells #[.slice A0 f0.length c0, .int .i64 f1, .int .i64 f2] 93 (0, 0))) : W.cell? ⟨g, 2, none⟩ = some (.int .i64 f2) := (Za h 2).trans rfl
theorem IsS93.set_2 {w0 W : World} {g : Nat} {f0 : List Int} {f1 : Int} {f2 : Int} (h : IsS93 w0 W g f0 f1 f2) (x : Int) : IsS93 w0 (W.setCell ⟨g, 2, none⟩ (.int .i64 x)) g f0 f1 x := by
 obtain ⟨A0, c0, hb, hg, hr0⟩ := h
 exact ⟨A0, c0, by simpa using blk_set hb 2 (.int .i64 x), hg, hr0⟩
theorem IsS93.new (w0 W : World) (A0 : Option Addr) (c0 : Nat) (f0 : List Int) (f1 : Int) (f2 : Int) (hB : Below w0.heap.size w0 W) (hr0 : Kd.C (Kd.int .u8) w0 A0 f0.length f0) : IsS93 w0 (W.alloc (.cells #[.slice A0 f0.length c0, .int .i64 f1, .int .i64 f2] 93)) W.heap.size f0 f1 f2 := ⟨A0, c0, by simpa using heap_alloc_new W _, hB.size, hr0⟩

/-! ### spec_l1New: function 82 -/
def spec_l1New.l0 : Nat → List Int → Int → Int → Option (List Int × Int × Int)
 | 0, _, _, _ => none
 | k + 1, x0, x3, x4 => if x4 < (x0.length : Int) then (if x4 < 4000 then (if 0 ≤ x4 then (spec_l1New.l0 k x0 (Go.bits .and .i64 (wrap64 ((wrap64 ((wrap64 (x3 * 137)) + (wrap64 (rd x0 x4)))) + 11)) 1073741823) (wrap64 (x4 + 1))) else (none)) else (some (x0, 0, x3))) else (some (x0, 0, x3))
def spec_l1New.f (k : Nat) (l0 : List Int) : Option (List Int × Int × Int) := spec_l1New.l0 k l0 (wrap64 (193017 + (l0.length : Int))) 0
theorem spec_l1New.mono_l : ∀ k, (∀ y0 y1 y2, LeO (spec_l1New.l0 k y0 y1 y2) (spec_l1New.l0 (k + 1) y0 y1 y2))
 | 0 => fun _ _ _ r h => by simp [spec_l1New.l0] at h
 | k + 1 => by
  have ih0 := spec_l1New.mono_l k
  ·intro y0 y1 y2
   unfold spec_l1New.l0
   repeat' with_reducible first | apply ih0 | apply ZJ | apply Zn | refine Zu ?_ ?_ | refine Zo ?_ (fun _ => ?_)
theorem spec_l1New.mono : ∀ a0 k, LeO (spec_l1New.f k a0) (spec_l1New.f (k + 1) a0) := by
 intro a0 k
 have ih0 := spec_l1New.mono_l k
 unfold spec_l1New.f
 repeat' with_reducible first | apply ih0 | apply ZJ | apply Zn | refine Zu ?_ ?_ | refine Zo ?_ (fun _ => ?_)
theorem spec_l1New.calls (k : Nat) (A0 : Option Addr) (c0 : Nat) (l0 : List Int) (r1 : List Int) (r2 : Int) (r3 : Int) (w0 w : World) (hB : Below w0.heap.size w0 w) (hr0 : Kd.C (Kd.int .u8) w0 A0 l0.length l0) (hc0 : l0.length ≤ c0) (h : spec_l1New.f k l0 = some (r1, r2, r3)) :
  Calls Try.prog 82 #[.slice A0 l0.length c0] w fun e w' => ∃ g_ : Nat, e = .returned (.pointer (some ⟨g_, 0, none⟩)) ∧ IsS93 w0 w' g_ r1 r2 r3 ∧ Below w0.heap.size w0 w' ∧ Below w.heap.size w w' := by
 have hu93 := Try.underlying93
 have HR0 := Aside0.mk hr0
 have HC0 := Aside0.mk hc0
 clear hr0 hc0
 have HBW := Aside0.mk (Below.refl w.heap.size w)
 have HW0 := Aside0.mk hB.size
 have HB := Aside0.mk hB
 clear hB
 have H := h
 unfold spec_l1New.f at H
 clear h
 have H' := Aside0.mk H
 clear H
 go_enter Try.func82, Try.ntmps82
 go_wp2
 go_loopg [3, 4] k (fun kq v3 v4 w' => ∃ (x3_1 : Int) (x4_1 : Int), v3 = .int .i64 x3_1 ∧ v4 = .int .i64 x4_1 ∧ Aside0 (spec_l1New.l0 kq l0 x3_1 x4_1 = some (r1, r2, r3)) ∧ Aside0 (kq ≤ k) ∧ Aside0 (Below w.heap.size w w') ∧ Aside0 (Below w0.heap.size w0 w'))
 case atStart => exact ⟨(wrap64 (193017 + (l0.length : Int))), (0), sm_, sm_, H', ⟨Nat.le_refl _⟩, ⟨by exact qC_ HBW.out⟩, ⟨hB_⟩⟩
 case round =>
  clear H'
  obtain ⟨x3_1, x4_1, rfl, rfl, HA, HK1, HBW, HB⟩ := hrel
  cases gk with
  | zero => exact absurd HA.out (by simp [spec_l1New.l0])
  | succ k1 =>
   have H := HA.out
   clear HA
   simp only [spec_l1New.l0] at H
   by_cases c2 : x4_1 < (l0.length : Int)
   rotate_left
   ·rw [if_neg c2] at H
    have c2b0 : decide (x4_1 < (l0.length : Int)) = false := decide_eq_false c2
    clear c2
    simp only [Option.some.injEq, Prod.mk.injEq] at H
    obtain ⟨rfl, rfl, rfl⟩ := H
    go_wp2_with (first | ((with_reducible refine ZA (N := 31) rfl ?_); refine ZC ?hg (N := 31) ?hd (cs := #[.slice A0 l0.length c0, .int .i64 0, .int .i64 x3_1]) (t := 93) ?hr ?_; (case hd => rfl); (case hg => rfl); (case hr => first | (go_simp; done) | (go_simp; rfl)); intro gb209 hg w6 hbox hb; replace HB := Aside0.mk (Zh hB_ hb); have BK209 := Aside0.mk (hbox); have GW209 := Aside0.mk ((by rw [hg]; exact (Zm (qC_ HBW.out)) : w.heap.size ≤ gb209)); have GE209 := Aside0.mk ((Nat.le_trans HW0.out (by rw [hg]; exact (Zm (qC_ HBW.out)) : w.heap.size ≤ gb209) : w0.heap.size ≤ gb209)); replace HBW := Aside0.mk (Zh HBW.out hb); clear hb hbox hg))
    go_ret
    exact ⟨_, rfl, (show IsS93 w0 _ gb209 l0 0 x3_1 from ⟨_, _, bk_ BK209.out, GE209.out, HR0.out⟩), hB_, by repeat (first | (with_reducible first | exact HBW.out | apply Zk | apply Zi | apply Zj | refine Zc ?_ GW209.out) | exact HBW.out)⟩
   rw [if_pos c2] at H
   have c2b0 : decide (x4_1 < (l0.length : Int)) = true := decide_eq_true c2
   clear c2
   by_cases c3 : x4_1 < 4000
   rotate_left
   ·rw [if_neg c3] at H
    have c3b0 : decide (x4_1 < 4000) = false := decide_eq_false c3
    clear c3
    simp only [Option.some.injEq, Prod.mk.injEq] at H
    obtain ⟨rfl, rfl, rfl⟩ := H
    go_wp2_with (first | ((with_reducible refine ZA (N := 31) rfl ?_); refine ZC ?hg (N := 31) ?hd (cs := #[.slice A0 l0.length c0, .int .i64 0, .int .i64 x3_1]) (t := 93) ?hr ?_; (case hd => rfl); (case hg => rfl); (case hr => first | (go_simp; done) | (go_simp; rfl)); intro gb208 hg w5 hbox hb; replace HB := Aside0.mk (Zh hB_ hb); have BK208 := Aside0.mk (hbox); have GW208 := Aside0.mk ((by rw [hg]; exact (Zm (qC_ HBW.out)) : w.heap.size ≤ gb208)); have GE208 := Aside0.mk ((Nat.le_trans HW0.out (by rw [hg]; exact (Zm (qC_ HBW.out)) : w.heap.size ≤ gb208) : w0.heap.size ≤ gb208)); replace HBW := Aside0.mk (Zh HBW.out hb); clear hb hbox hg))
    go_ret
    exact ⟨_, rfl, (show IsS93 w0 _ gb208 l0 0 x3_1 from ⟨_, _, bk_ BK208.out, GE208.out, HR0.out⟩), hB_, by repeat (first | (with_reducible first | exact HBW.out | apply Zk | apply Zi | apply Zj | refine Zc ?_ GW208.out) | exact HBW.out)⟩
   rw [if_pos c3] at H
   have c3b0 : decide (x4_1 < 4000) = true := decide_eq_true c3
   clear c3
   by_cases c4 : 0 ≤ x4_1
   rotate_left
   ·rw [if_neg c4] at H
    exact absurd H (by simp)
   rw [if_pos c4] at H
   have c4b0 : decide (0 ≤ x4_1) = true := decide_eq_true c4
   clear c4
   have H' := Aside0.mk H
   clear H
   have p207 : 0 ≤ (x4_1 : Int) := of_decide_eq_true as_
   have q207 : x4_1 < (l0.length : Int) := of_decide_eq_true as_
   obtain ⟨ad207, e207, hx207_0⟩ := Zx HR0.out x4_1 p207 q207
   cases e207
   replace hx207_0 := pw_cell_below HB.out hx207_0
   replace p207 := eq_true p207
   replace q207 := eq_true q207
   go_wp2
   go_roundg k1
   case measure => have := HK1.out; omega
   case rel => exact ⟨(Go.bits .and .i64 (wrap64 ((wrap64 ((wrap64 (x3_1 * 137)) + (wrap64 (rd l0 x4_1)))) + 11)) 1073741823), (wrap64 (x4_1 + 1)), sm_, sm_, H', ⟨by have := HK1.out; omega⟩, ⟨by exact qC_ HBW.out⟩, ⟨hB_⟩⟩

end Go.Proofs.Ytdlobolnajcfnaa.PFnDisputes
