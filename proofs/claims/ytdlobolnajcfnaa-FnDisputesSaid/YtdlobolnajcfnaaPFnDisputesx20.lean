-- Written by a program of this session (hooks of mine on the print): Lean checks it.
import Derived.Test.YtdlobolnajcfnaaPFnDisputesx0
import Derived.Test.YtdlobolnajcfnaaPFnDisputesx1
import Derived.Test.YtdlobolnajcfnaaPFnDisputesx2
import Derived.Test.YtdlobolnajcfnaaPFnDisputesx4
import Derived.Test.YtdlobolnajcfnaaPFnDisputesx5
import Derived.Test.YtdlobolnajcfnaaPFnDisputesx11
import Derived.Test.YtdlobolnajcfnaaPFnDisputesx12
import Derived.Test.YtdlobolnajcfnaaPFnDisputesx13
import Derived.Test.YtdlobolnajcfnaaPFnDisputesx14
import Derived.Test.YtdlobolnajcfnaaPFnDisputesx15
import Derived.Test.YtdlobolnajcfnaaPFnDisputesx17
import Derived.Test.YtdlobolnajcfnaaPFnDisputesx18
import Derived.Test.YtdlobolnajcfnaaPFnDisputesx19
namespace Go.Proofs.Ytdlobolnajcfnaa.PFnDisputes
open Go.RowKit Go.Proofs.YtdlobolnajcfnaaW.PrintWords Go.Proofs.YtdlobolnajcfnaaW.PrintLast Go.Proofs.YtdlobolnajcfnaaW.PrintMore
attribute [local go_sem] max2_int min2_int max_two min_two max_three min_three max_four min_four   -- for this text's walks alone
set_option linter.unusedVariables false
set_option linter.unusedSimpArgs false

/-! ### laws_FnDisputes: function 7 -/
mutual
def laws_FnDisputes.j0 : Nat → List Int → Option (Bool)
 | 0, _ => none
 | k + 1, x0 => (spec_DrawRenamed.f k x0).bind fun bt2422 => ((impl_Renamed.f k bt2422.1 bt2422.2.1 bt2422.2.2).bind fun bt2430 => (if bt2430.2.2 = true then ((impl_CountLoops.f k bt2422.1 bt2422.2.1).bind fun t2436 => ((impl_CountLoops.f k bt2430.1 bt2430.2.1).bind fun t2437 => (if t2436 = t2437 then (if (bt2422.2.1.length : Int) = (bt2430.2.1.length : Int) then ((impl_Grounded.f k bt2422.1 bt2422.2.1).bind fun t2492 => ((impl_Grounded.f k bt2430.1 bt2430.2.1).bind fun t2495 => (laws_FnDisputes.l0 k x0 bt2422.2.2 t2492 t2495 0 bt2422.1 bt2422.2.1 bt2430.1 bt2430.2.1))) else (none)) else (none)))) else (laws_FnDisputes.j2 k x0)))
def laws_FnDisputes.j2 : Nat → List Int → Option (Bool)
 | 0, _ => none
 | k + 1, x0 => (spec_DrawIsPartOf.f k x0).bind fun bt2565 => ((impl_IsPartOf.f k bt2565.1 bt2565.2.1 bt2565.2.2.1 bt2565.2.2.2).bind fun t2575 => (if t2575 = true then (some (decide (bt2565.1 ≤ bt2565.2.2.1))) else (some true)))
def laws_FnDisputes.l0 : Nat → List Int → List Int → List Int → List Int → Int → Int → List (List Int) → Int → List (List Int) → Option (Bool)
 | 0, _, _, _, _, _, _, _, _, _ => none
 | k + 1, x0, x12, x15, x16, x17, x2430000, x2430001, x2436000, x2436001 => if x17 < (x12.length : Int) then ((laws_contains.f k x15 x17).bind fun t2504 => (if 0 ≤ x17 then ((laws_contains.f k x16 (rd x12 x17)).bind fun t2506 => (if (t2504 != t2506) = true then (none) else ((impl_RoundOf.f k x2430000 x2430001 x17).bind fun t2507 => ((impl_RoundOf.f k x2436000 x2436001 (rd x12 x17)).bind fun t2509 => (if t2507 = t2509 then (laws_FnDisputes.l0 k x0 x12 x15 x16 (wrap64 (x17 + 1)) x2430000 x2430001 x2436000 x2436001) else (none)))))) else (none))) else (laws_FnDisputes.j2 k x0)
end
def laws_FnDisputes.f (k : Nat) (l0 : List Int) : Option (Bool) := (laws_big.f l0).bind fun t615 => (if t615 = true then (some true) else ((spec_DrawWithClaim.f k l0).bind fun bt1596 => ((impl_WithClaim.f k bt1596.1 bt1596.2.1 bt1596.2.2).bind fun bt1604 => ((spec_WithClaim.f k bt1596.1 bt1596.2.1 bt1596.2.2).bind fun bt1610 => (if (bt1604.2.2 != bt1610.2.2) = true then (none) else (if bt1604.2.2 = true then ((impl_Without.f k bt1604.1 bt1604.2.1 bt1596.1).bind fun bt2096 => ((impl_IsGraph.f k bt1604.1 bt1604.2.1).bind fun t2102 => (if t2102 = true then ((impl_IsPartOf.f k bt1596.1 bt1596.2.1 bt1604.1 bt1604.2.1).bind fun t2103 => (if t2103 = true then ((impl_VictimsOf.f k bt1604.1 bt1604.2.1 bt1596.1).bind fun t2104 => ((laws_sameInts.f k t2104 bt1596.2.2).bind fun t2107 => (if t2107 = true then (if bt2096.2.2 = true then ((impl_IsPartOf.f k bt2096.1 bt2096.2.1 bt1596.1 bt1596.2.1).bind fun t2108 => (if t2108 = true then ((impl_IsPartOf.f k bt1596.1 bt1596.2.1 bt2096.1 bt2096.2.1).bind fun t2109 => (if t2109 = true then ((impl_Grounded.f k bt1604.1 bt1604.2.1).bind fun t2110 => ((laws_contains.f k t2110 bt1596.1).bind fun t2113 => (if t2113 = true then (laws_FnDisputes.j0 k l0) else (none)))) else (none))) else (none))) else (none)) else (none)))) else (none))) else (none)))) else (laws_FnDisputes.j0 k l0)))))))
theorem laws_FnDisputes.mono_l : ∀ k, (∀ y0, LeO (laws_FnDisputes.j0 k y0) (laws_FnDisputes.j0 (k + 1) y0)) ∧ (∀ y0, LeO (laws_FnDisputes.j2 k y0) (laws_FnDisputes.j2 (k + 1) y0)) ∧ (∀ y0 y1 y2 y3 y4 y5 y6 y7 y8, LeO (laws_FnDisputes.l0 k y0 y1 y2 y3 y4 y5 y6 y7 y8) (laws_FnDisputes.l0 (k + 1) y0 y1 y2 y3 y4 y5 y6 y7 y8))
 | 0 => ⟨fun _ r h => by simp [laws_FnDisputes.j0] at h, fun _ r h => by simp [laws_FnDisputes.j2] at h, fun _ _ _ _ _ _ _ _ _ r h => by simp [laws_FnDisputes.l0] at h⟩
 | k + 1 => by
  obtain ⟨ih0, ih1, ih2⟩ := laws_FnDisputes.mono_l k
  refine ⟨?_, ?_, ?_⟩
  ·intro y0
   unfold laws_FnDisputes.j0
   repeat' with_reducible first | apply ih0 | apply ih1 | apply ih2 | apply impl_CountLoops.mono | apply impl_Grounded.mono | apply impl_IsGraph.mono | apply impl_IsPartOf.mono | apply impl_Renamed.mono | apply impl_RoundOf.mono | apply impl_VictimsOf.mono | apply impl_WithClaim.mono | apply impl_Without.mono | apply laws_contains.mono | apply laws_sameInts.mono | apply spec_DrawIsPartOf.mono | apply spec_DrawRenamed.mono | apply spec_DrawWithClaim.mono | apply spec_WithClaim.mono | apply ZJ | apply Zn | refine Zu ?_ ?_ | refine Zo ?_ (fun _ => ?_)
  ·intro y0
   unfold laws_FnDisputes.j2
   repeat' with_reducible first | apply ih0 | apply ih1 | apply ih2 | apply impl_CountLoops.mono | apply impl_Grounded.mono | apply impl_IsGraph.mono | apply impl_IsPartOf.mono | apply impl_Renamed.mono | apply impl_RoundOf.mono | apply impl_VictimsOf.mono | apply impl_WithClaim.mono | apply impl_Without.mono | apply laws_contains.mono | apply laws_sameInts.mono | apply spec_DrawIsPartOf.mono | apply spec_DrawRenamed.mono | apply spec_DrawWithClaim.mono | apply spec_WithClaim.mono | apply ZJ | apply Zn | refine Zu ?_ ?_ | refine Zo ?_ (fun _ => ?_)
  ·intro y0 y1 y2 y3 y4 y5 y6 y7 y8
   unfold laws_FnDisputes.l0
   repeat' with_reducible first | apply ih0 | apply ih1 | apply ih2 | apply impl_CountLoops.mono | apply impl_Grounded.mono | apply impl_IsGraph.mono | apply impl_IsPartOf.mono | apply impl_Renamed.mono | apply impl_RoundOf.mono | apply impl_VictimsOf.mono | apply impl_WithClaim.mono | apply impl_Without.mono | apply laws_contains.mono | apply laws_sameInts.mono | apply spec_DrawIsPartOf.mono | apply spec_DrawRenamed.mono | apply spec_DrawWithClaim.mono | apply spec_WithClaim.mono | apply ZJ | apply Zn | refine Zu ?_ ?_ | refine Zo ?_ (fun _ => ?_)
theorem laws_FnDisputes.mono : ∀ a0 k, LeO (laws_FnDisputes.f k a0) (laws_FnDisputes.f (k + 1) a0) := by
 intro a0 k
 obtain ⟨ih0, ih1, ih2⟩ := laws_FnDisputes.mono_l k
 unfold laws_FnDisputes.f
 repeat' with_reducible first | apply ih0 | apply ih1 | apply ih2 | apply impl_CountLoops.mono | apply impl_Grounded.mono | apply impl_IsGraph.mono | apply impl_IsPartOf.mono | apply impl_Renamed.mono | apply impl_RoundOf.mono | apply impl_VictimsOf.mono | apply impl_WithClaim.mono | apply impl_Without.mono | apply laws_contains.mono | apply laws_sameInts.mono | apply spec_DrawIsPartOf.mono | apply spec_DrawRenamed.mono | apply spec_DrawWithClaim.mono | apply spec_WithClaim.mono | apply ZJ | apply Zn | refine Zu ?_ ?_ | refine Zo ?_ (fun _ => ?_)
def laws_FnDisputes.T10 : Bool × List (List Nat × List Nat) := (true, [([], []), ([0], [0]), ([1], [1]), ([2, 1], [2]), ([3], [3]), ([3], [3]), ([4, 5, 3, 3], [3, 4, 5]), ([6, 3], [3, 6]), ([3, 7], [3, 7]), ([8, 6], [8]), ([9], [9]), ([9], [9]), ([11, 9], [9, 11]), ([10, 12, 9, 9], [9, 10, 12]), ([9], [9]), ([13, 14, 13, 9], [9, 13, 14]), ([15, 9], [9, 15]), ([9, 16], [9, 16]), ([17, 15], [17]), ([18], [18]), ([19, 18], [18, 19]), ([18, 20], [18, 20]), ([21, 18], [21]), ([22], [22]), ([22], [22]), ([23, 24, 22, 22], [22, 23, 24]), ([25, 22], [22, 25]), ([22, 26], [22, 26]), ([27, 25], [27]), ([28], [28]), ([28], [28]), ([29, 30, 28, 28], [28, 29, 30]), ([31, 28], [28, 31]), ([28, 32], [28, 32]), ([33, 31], [33]), ([34], [34]), ([35, 34, 34], [34, 35]), ([34], [34]), ([37, 34], [34, 37]), ([36, 38, 36, 34], [34, 36, 38]), ([39, 34], [34, 39]), ([34, 40], [34, 40])])
def laws_FnDisputes.B10 : List Nat := [0, 1, 3, 7, 15, 15, 63, 127, 255, 511, 1023, 1023, 3071, 8191, 1023, 32767, 65535, 131071, 262143, 524287, 1048575, 2097151, 4194303, 8388607, 8388607, 33554431, 67108863, 134217727, 268435455, 536870911, 536870911, 2147483647, 4294967295, 8589934591, 17179869183, 34359738367, 68719476735, 34359738367, 171798691839, 549755813887, 1099511627775, 2199023255551]
theorem laws_FnDisputes.tab10 : rtab .any (opsOf Try.f7 10) = laws_FnDisputes.T10 := by kernel_rfl
theorem laws_FnDisputes.bits10 : waitsOk laws_FnDisputes.T10.2 laws_FnDisputes.B10 = true := by kernel_rfl
def laws_FnDisputes.T15 : Bool × List (List Nat × List Nat) := (true, [([], []), ([0], [0]), ([], []), ([2, 1], [2]), ([1, 3], [1, 3]), ([4, 3], [4]), ([5], [5]), ([6, 5], [5, 6]), ([7, 5], [5, 7]), ([5], [5]), ([9, 5], [5, 9]), ([10, 5], [5, 10]), ([8, 11, 5], [5, 8, 11]), ([5, 12], [5, 12])])
def laws_FnDisputes.B15 : List Nat := [0, 1, 0, 7, 15, 31, 63, 127, 255, 63, 575, 1599, 4095, 8191]
theorem laws_FnDisputes.tab15 : rtab .any (opsOf Try.f7 15) = laws_FnDisputes.T15 := by kernel_rfl
theorem laws_FnDisputes.bits15 : waitsOk laws_FnDisputes.T15.2 laws_FnDisputes.B15 = true := by kernel_rfl
def laws_FnDisputes.T22 : Bool × List (List Nat × List Nat) := (true, [([], []), ([], []), ([0, 1], [0, 1]), ([], []), ([], []), ([], []), ([4, 5], [4, 5]), ([6], [6]), ([3, 7, 2], [3, 7]), ([2, 8], [2, 8]), ([9, 8], [9]), ([10], [10]), ([10], [10]), ([11, 12, 10, 10], [10, 11, 12]), ([10], [10]), ([10], [10]), ([10], [10]), ([15, 16, 10], [10, 15, 16]), ([17, 10], [10, 17]), ([14, 18, 13, 10], [10, 14, 18]), ([13, 19, 10], [10, 13, 19]), ([10, 20], [10, 20])])
def laws_FnDisputes.B22 : List Nat := [0, 0, 3, 0, 0, 0, 48, 112, 255, 511, 1023, 2047, 2047, 8191, 2047, 2047, 2047, 100351, 231423, 524287, 1048575, 2097151]
theorem laws_FnDisputes.tab22 : rtab .any (opsOf Try.f7 22) = laws_FnDisputes.T22 := by kernel_rfl
theorem laws_FnDisputes.bits22 : waitsOk laws_FnDisputes.T22.2 laws_FnDisputes.B22 = true := by kernel_rfl
set_option maxHeartbeats 8000000 in
set_option maxRecDepth 100000 in
theorem laws_FnDisputes.calls (k : Nat) (A0 : Option Addr) (c0 : Nat) (l0 : List Int) (r : Bool) (w : World) (hr0 : Kd.C (Kd.int .u8) w A0 l0.length l0) (hc0 : l0.length ≤ c0) (h : laws_FnDisputes.f k l0 = some r) :
  Calls Try.prog 7 #[.slice A0 l0.length c0] w fun e w' => e = .returned (.bool r) ∧ Below w.heap.size w w' := by
 have hu27 := Try.underlying27
 have HR0 := Aside0.mk hr0
 have HC0 := Aside0.mk hc0
 clear hr0 hc0
 have HB := Aside0.mk (Below.refl w.heap.size w)
 have H := h
 unfold laws_FnDisputes.f at H
 clear h
 obtain ⟨t615, A2, H⟩ := bd_ H
 try dsimp only at H
 by_cases c3 : t615 = true
 ·subst c3
  rw [if_pos rfl] at H
  try dsimp only at H
  obtain rfl := Option.some.inj H
  go_enter Try.func7, Try.ntmps7
  go_wp2_with (first | ((with_reducible refine Zl (f := 18) rfl ?_); refine ZI (some 21) rfl rfl Try.func18 (by kernel_rfl) rfl #[.slice A0 l0.length c0] rfl ar_ ?_; (with_reducible refine (laws_big.calls _ _ l0 true _ ?side1 ?side2 A2.out).mono ?_); (case side1 => exact sA_ HR0.out); (case side2 => exact HC0.out); rintro e w' ⟨rfl, ⟨nd, rfl⟩⟩; refine ⟨_, rfl, ?_⟩))
  all_goals go_ret
  all_goals exact ⟨er_, hB_⟩
 replace c3 := Bool.eq_false_iff.mpr c3
 subst c3
 rw [if_neg (show ¬ (false = true) by decide)] at H
 try dsimp only at H
 obtain ⟨⟨t1596, t1597, t1600⟩, A4, H⟩ := bd_ H
 try dsimp only at H
 obtain ⟨⟨t1604, t1605, t1608⟩, A5, H⟩ := bd_ H
 try dsimp only at H
 obtain ⟨⟨t1610, t1611, t1614⟩, A6, H⟩ := bd_ H
 try dsimp only at H
 by_cases c7 : (t1608 != t1614) = true
 ·rw [if_pos c7] at H
  exact absurd H (by simp)
 rw [if_neg c7] at H
 have c7b0 : (t1608 != t1614) = false := by simpa using c7
 (try (have c7b1 : decide (t1608 = t1614) = true := by simpa using c7))
 (try (have c7b2 : (t1608 == t1614) = true := by simpa using c7))
 clear c7
 have HC8 := Aside0.mk H
 clear H
 go_enter Try.func7, Try.ntmps7
 go_upto_if 42 with (first | ((with_reducible refine Zl (f := 18) rfl ?_); refine ZI (some 21) rfl rfl Try.func18 (by kernel_rfl) rfl #[.slice A0 l0.length c0] rfl ar_ ?_; (with_reducible refine (laws_big.calls _ _ l0 false _ ?side1 ?side2 A2.out).mono ?_); (case side1 => exact sA_ HR0.out); (case side2 => exact HC0.out); rintro e w' ⟨rfl, ⟨nd, rfl⟩⟩; refine ⟨_, rfl, ?_⟩) | ((with_reducible refine Zl (f := 41) rfl ?_); refine ZI (some 24) rfl rfl Try.func41 (by kernel_rfl) rfl #[.slice A0 l0.length c0] rfl ar_ ?_; (with_reducible refine (spec_DrawWithClaim.calls k _ _ l0 t1596 t1597 t1600 _ ?side1 ?side2 A4.out).mono ?_); (case side1 => exact sA_ HR0.out); (case side2 => exact HC0.out); rintro e w9 ⟨v1598, v1601, rfl, ho0, ho1, hb⟩; refine ⟨_, rfl, ?_⟩; have HO1599 := Aside0.mk (Kd.S_lower ho0 (Zm hB_)); have HO1602 := Aside0.mk (Kd.R_lower ho1 (Zm hB_)); replace HB := Aside0.mk (Zh hB_ hb); (try clear hb); (try clear hk); (try clear ho0); (try clear ho1)) | ((with_reducible refine ZA (N := 3) rfl ?_); (try (refine gate_guard (by rfl) ?_; dsimp only)); refine ZC ?hg (N := 3) ?hd (cs := #[.int .i64 0, .slice none 0 0]) (t := 27) ?hr ?_; (case hd => rfl); (case hg => rfl); (case hr => first | (go_simp; done) | (go_simp; rfl)); intro gb1603 hg w10 hbox hb; replace HO1599 := Aside0.mk (Zz (rS_ HO1599.out) hb); replace HO1602 := Aside0.mk (Kd.R_below (rR_ HO1602.out) hb); have BK1603 := Aside0.mk (hbox); have GW1603 := Aside0.mk ((hz_ hg : w.heap.size ≤ gb1603)); have GE1603 := Aside0.mk ((hz_ hg : w.heap.size ≤ gb1603)); replace HB := Aside0.mk (Zh hB_ hb); clear hb hbox hg; obtain ⟨hcz11_0, hcz11_1, hfz11_0, hfz11_1⟩ := c2_ BK1603.out; obtain ⟨Ao12, co12, eo12⟩ := ZN HO1599.out; subst eo12; obtain ⟨Ao13, co13, eo13⟩ := Kd.R_slice HO1602.out; subst eo13) | ((with_reducible refine Zl (f := 42) rfl ?_); refine ZI (some 30) rfl rfl Try.func42 (by kernel_rfl) rfl #[.agg #[.int .i64 t1596, .slice Ao12 t1597.length co12], .slice Ao13 t1600.length co13] rfl ar_ ?_; (with_reducible refine (impl_WithClaim.calls k t1596 _ _ t1597 _ _ t1600 t1604 t1605 t1608 _ ?side1 ?side2 ?side3 ?side4 A5.out).mono ?_); (case side1 => refine (ZK (e := 31) (base := w.heap.size) (ok := fun k_ => some k_ ≠ (.slice Ao13 t1600.length co13 : Value).ownBlock) (n := t1597.length) (c := co12) ?_).2.2; exact (by (with_reducible repeat (first | apply Zs | apply Zr | apply Zp)); exact (Zt (Zq (p := ⟨gb1603, 1, none⟩) (Zq (p := ⟨gb1603, 0, none⟩) (Zv HO1599.out BK1603.out (by decide)) (fun _ hk => hk.2) (.int .i64 t1596)) (fun _ hk => hk.2) (.slice Ao12 t1597.length co12)) (fun _ h_ => h_.1)))); (case side2 => exact (ZK HO1599.out).2.1); (case side3 => refine (ZF (e := 3) (base := w.heap.size) (ok := fun k_ => True) (n := t1600.length) (c := co13) ?_).2.2; exact (by (with_reducible repeat (first | apply ZP | apply ZO | apply ZU)); exact (Zw (Kd.R_far (p := ⟨gb1603, 1, none⟩) (Kd.R_far (p := ⟨gb1603, 0, none⟩) (Kd.R_types HO1602.out BK1603.out (by decide)) (fun _ hk => hk.2) (.int .i64 t1596)) (fun _ hk => hk.2) (.slice Ao12 t1597.length co12)) (fun _ h_ => h_.1)))); (case side4 => exact (ZF HO1602.out).2.1); rintro e w14 ⟨v1606, rfl, ho0, hb⟩; refine ⟨_, rfl, ?_⟩; have HO1607 := Aside0.mk (Kd.S_lower (Kd.S_new' (Kd.S_new' ho0 (Kd.S_lt (by (with_reducible repeat (first | apply Zs | apply Zr | apply Zp)); exact (Zt (Zq (p := ⟨gb1603, 1, none⟩) (Zq (p := ⟨gb1603, 0, none⟩) (Zv HO1599.out BK1603.out (by decide)) (fun _ hk => hk.2) (.int .i64 t1596)) (fun _ hk => hk.2) (.slice Ao12 t1597.length co12)) (fun _ h_ => h_.1))))) (Kd.R_lt (by (with_reducible repeat (first | apply ZP | apply ZO | apply ZU)); exact (Zw (Kd.R_far (p := ⟨gb1603, 1, none⟩) (Kd.R_far (p := ⟨gb1603, 0, none⟩) (Kd.R_types HO1602.out BK1603.out (by decide)) (fun _ hk => hk.2) (.int .i64 t1596)) (fun _ hk => hk.2) (.slice Ao12 t1597.length co12)) (fun _ h_ => h_.1))))) (Zm hB_)); replace HO1599 := Aside0.mk (Kd.S_elder' (by (with_reducible repeat (first | apply Zs | apply Zr | apply Zp)); exact (Zt (Zq (p := ⟨gb1603, 1, none⟩) (Zq (p := ⟨gb1603, 0, none⟩) (Zv HO1599.out BK1603.out (by decide)) (fun _ hk => hk.2) (.int .i64 t1596)) (fun _ hk => hk.2) (.slice Ao12 t1597.length co12)) (fun _ h_ => h_.1))) (Kd.S_base ho0) hb); replace HO1602 := Aside0.mk (Kd.R_below (by (with_reducible repeat (first | apply ZP | apply ZO | apply ZU)); exact (Zw (Kd.R_far (p := ⟨gb1603, 1, none⟩) (Kd.R_far (p := ⟨gb1603, 0, none⟩) (Kd.R_types HO1602.out BK1603.out (by decide)) (fun _ hk => hk.2) (.int .i64 t1596)) (fun _ hk => hk.2) (.slice Ao12 t1597.length co12)) (fun _ h_ => h_.1))) hb); replace BK1603 := Aside0.mk (Zg (g := gb1603) (o := .cells #[.int .i64 t1596, .slice Ao12 t1597.length co12] 27 (0, 0)) (by (with_reducible repeat (first | refine Ze ?_ _ | refine Zf ?_ | refine Zd ?_ _)); refine ZB (cs := #[.int .i64 t1596, .slice none 0 0]) ?_ 1 _ rfl; (with_reducible repeat (first | refine Ze ?_ _ | refine Zf ?_ | refine Zd ?_ _)); refine ZB (cs := #[.int .i64 0, .slice none 0 0]) ?_ 0 _ rfl; (with_reducible repeat (first | refine Ze ?_ _ | refine Zf ?_ | refine Zd ?_ _)); exact BK1603.out) hb); replace HB := Aside0.mk (Zh hB_ hb); (try clear hb); (try clear hk); (try clear ho0)) | ((with_reducible refine ZA (N := 5) rfl ?_); (try (refine gate_guard (by rfl) ?_; dsimp only)); refine ZC ?hg (N := 5) ?hd (cs := #[.int .i64 0, .slice none 0 0]) (t := 27) ?hr ?_; (case hd => rfl); (case hg => rfl); (case hr => first | (go_simp; done) | (go_simp; rfl)); intro gb1609 hg w15 hbox hb; replace HO1599 := Aside0.mk (Zz (rS_ HO1599.out) hb); replace HO1602 := Aside0.mk (Kd.R_below (rR_ HO1602.out) hb); replace HO1607 := Aside0.mk (Zz (rS_ HO1607.out) hb); have BK1609 := Aside0.mk (hbox); have GW1609 := Aside0.mk ((hz_ hg : w.heap.size ≤ gb1609)); have GE1609 := Aside0.mk ((hz_ hg : w.heap.size ≤ gb1609)); replace HB := Aside0.mk (Zh hB_ hb); have NB1603_1609 := Aside0.mk ((by rw [hg]; exact Nat.ne_of_lt (ZS (bq_ BK1603.out)) : gb1603 ≠ gb1609)); have NB1609_1603 := Aside0.mk ((by rw [hg]; exact Nat.ne_of_gt (ZS (bq_ BK1603.out)) : gb1609 ≠ gb1603)); replace BK1603 := Aside0.mk (Zg (bq_ BK1603.out) hb); clear hb hbox hg; have hnb16 := NB1609_1603.out; have hnc16 := NB1603_1609.out; obtain ⟨hcz17_0, hcz17_1, hfz17_0, hfz17_1⟩ := c2_ BK1609.out; obtain ⟨Ao18, co18, eo18⟩ := ZN HO1607.out; subst eo18; obtain ⟨hcz19_0, hcz19_1, hfz19_0, hfz19_1⟩ := c2_ BK1603.out) | ((with_reducible refine Zl (f := 43) rfl ?_); refine ZI (some 36) rfl rfl Try.func43 (by kernel_rfl) rfl #[.agg #[.int .i64 t1596, .slice Ao12 t1597.length co12], .slice Ao13 t1600.length co13] rfl ar_ ?_; (with_reducible refine (spec_WithClaim.calls k t1596 _ _ t1597 _ _ t1600 t1610 t1611 t1614 _ ?side1 ?side2 ?side3 ?side4 A6.out).mono ?_); (case side1 => refine (ZK (e := 31) (base := w.heap.size) (ok := fun k_ => (some k_ ≠ (.slice Ao13 t1600.length co13 : Value).ownBlock ∧ some k_ ≠ (.slice Ao18 t1605.length co18 : Value).ownBlock)) (n := t1597.length) (c := co12) ?_).2.2; exact (by (with_reducible repeat (first | apply Zs | apply Zr | apply Zp)); exact (Zt (Zq (p := ⟨gb1609, 1, none⟩) (Zq (p := ⟨gb1609, 0, none⟩) (Zv HO1599.out BK1609.out (by decide)) (fun _ hk => hk.2) (.int .i64 t1604)) (fun _ hk => hk.2) (.slice Ao18 t1605.length co18)) (fun _ h_ => h_.1)))); (case side2 => exact (ZK HO1599.out).2.1); (case side3 => refine (ZF (e := 3) (base := w.heap.size) (ok := fun k_ => True) (n := t1600.length) (c := co13) ?_).2.2; exact (by (with_reducible repeat (first | apply ZP | apply ZO | apply ZU)); exact (Zw (Kd.R_far (p := ⟨gb1609, 1, none⟩) (Kd.R_far (p := ⟨gb1609, 0, none⟩) (Kd.R_types HO1602.out BK1609.out (by decide)) (fun _ hk => hk.2) (.int .i64 t1604)) (fun _ hk => hk.2) (.slice Ao18 t1605.length co18)) (fun _ h_ => h_.1)))); (case side4 => exact (ZF HO1602.out).2.1); rintro e w20 ⟨v1612, rfl, ho0, hb⟩; refine ⟨_, rfl, ?_⟩; have HO1613 := Aside0.mk (Kd.S_lower (Kd.S_new' (Kd.S_new' (Kd.S_new' ho0 (Kd.S_lt (by (with_reducible repeat (first | apply Zs | apply Zr | apply Zp)); exact (Zt (Zq (p := ⟨gb1609, 1, none⟩) (Zq (p := ⟨gb1609, 0, none⟩) (Zv HO1599.out BK1609.out (by decide)) (fun _ hk => hk.2) (.int .i64 t1604)) (fun _ hk => hk.2) (.slice Ao18 t1605.length co18)) (fun _ h_ => h_.1))))) (Kd.R_lt (by (with_reducible repeat (first | apply ZP | apply ZO | apply ZU)); exact (Zw (Kd.R_far (p := ⟨gb1609, 1, none⟩) (Kd.R_far (p := ⟨gb1609, 0, none⟩) (Kd.R_types HO1602.out BK1609.out (by decide)) (fun _ hk => hk.2) (.int .i64 t1604)) (fun _ hk => hk.2) (.slice Ao18 t1605.length co18)) (fun _ h_ => h_.1))))) (Kd.S_lt (by (with_reducible repeat (first | apply Zs | apply Zr | apply Zp)); exact (Zt (Zq (p := ⟨gb1609, 1, none⟩) (Zq (p := ⟨gb1609, 0, none⟩) (Zv HO1607.out BK1609.out (by decide)) (fun _ hk => hk.2) (.int .i64 t1604)) (fun _ hk => hk.2) (.slice Ao18 t1605.length co18)) (fun _ h_ => h_.1))))) (Zm hB_)); replace HO1599 := Aside0.mk (Kd.S_elder' (by (with_reducible repeat (first | apply Zs | apply Zr | apply Zp)); exact (Zt (Zq (p := ⟨gb1609, 1, none⟩) (Zq (p := ⟨gb1609, 0, none⟩) (Zv HO1599.out BK1609.out (by decide)) (fun _ hk => hk.2) (.int .i64 t1604)) (fun _ hk => hk.2) (.slice Ao18 t1605.length co18)) (fun _ h_ => h_.1))) (Kd.S_base ho0) hb); replace HO1602 := Aside0.mk (Kd.R_below (by (with_reducible repeat (first | apply ZP | apply ZO | apply ZU)); exact (Zw (Kd.R_far (p := ⟨gb1609, 1, none⟩) (Kd.R_far (p := ⟨gb1609, 0, none⟩) (Kd.R_types HO1602.out BK1609.out (by decide)) (fun _ hk => hk.2) (.int .i64 t1604)) (fun _ hk => hk.2) (.slice Ao18 t1605.length co18)) (fun _ h_ => h_.1))) hb); replace HO1607 := Aside0.mk (Kd.S_elder' (by (with_reducible repeat (first | apply Zs | apply Zr | apply Zp)); exact (Zt (Zq (p := ⟨gb1609, 1, none⟩) (Zq (p := ⟨gb1609, 0, none⟩) (Zv HO1607.out BK1609.out (by decide)) (fun _ hk => hk.2) (.int .i64 t1604)) (fun _ hk => hk.2) (.slice Ao18 t1605.length co18)) (fun _ h_ => h_.1))) (Kd.S_base ho0) hb); replace BK1603 := Aside0.mk (Zg (g := gb1603) (o := .cells #[.int .i64 t1596, .slice Ao12 t1597.length co12] 27 (0, 0)) (by (with_reducible repeat (first | refine Ze ?_ _ | refine Zf ?_ | refine Zd ?_ _)); refine ZG ?_ NB1603_1609.out _; (with_reducible repeat (first | refine Ze ?_ _ | refine Zf ?_ | refine Zd ?_ _)); refine ZG ?_ NB1603_1609.out _; (with_reducible repeat (first | refine Ze ?_ _ | refine Zf ?_ | refine Zd ?_ _)); exact BK1603.out) hb); replace BK1609 := Aside0.mk (Zg (g := gb1609) (o := .cells #[.int .i64 t1604, .slice Ao18 t1605.length co18] 27 (0, 0)) (by (with_reducible repeat (first | refine Ze ?_ _ | refine Zf ?_ | refine Zd ?_ _)); refine ZB (cs := #[.int .i64 t1604, .slice none 0 0]) ?_ 1 _ rfl; (with_reducible repeat (first | refine Ze ?_ _ | refine Zf ?_ | refine Zd ?_ _)); refine ZB (cs := #[.int .i64 0, .slice none 0 0]) ?_ 0 _ rfl; (with_reducible repeat (first | refine Ze ?_ _ | refine Zf ?_ | refine Zd ?_ _)); exact BK1609.out) hb); replace HB := Aside0.mk (Zh hB_ hb); (try clear hb); (try clear hk); (try clear ho0)) | ((with_reducible refine ZA (N := 7) rfl ?_); (try (refine gate_guard (by rfl) ?_; dsimp only)); refine ZC ?hg (N := 7) ?hd (cs := #[.int .i64 0, .slice none 0 0]) (t := 27) ?hr ?_; (case hd => rfl); (case hg => rfl); (case hr => first | (go_simp; done) | (go_simp; rfl)); intro gb1615 hg w21 hbox hb; replace HO1599 := Aside0.mk (Zz (rS_ HO1599.out) hb); replace HO1602 := Aside0.mk (Kd.R_below (rR_ HO1602.out) hb); replace HO1607 := Aside0.mk (Zz (rS_ HO1607.out) hb); replace HO1613 := Aside0.mk (Zz (rS_ HO1613.out) hb); have BK1615 := Aside0.mk (hbox); have GW1615 := Aside0.mk ((hz_ hg : w.heap.size ≤ gb1615)); have GE1615 := Aside0.mk ((hz_ hg : w.heap.size ≤ gb1615)); replace HB := Aside0.mk (Zh hB_ hb); have NB1603_1615 := Aside0.mk ((by rw [hg]; exact Nat.ne_of_lt (ZS (bq_ BK1603.out)) : gb1603 ≠ gb1615)); have NB1615_1603 := Aside0.mk ((by rw [hg]; exact Nat.ne_of_gt (ZS (bq_ BK1603.out)) : gb1615 ≠ gb1603)); replace BK1603 := Aside0.mk (Zg (bq_ BK1603.out) hb); have NB1609_1615 := Aside0.mk ((by rw [hg]; exact Nat.ne_of_lt (ZS (bq_ BK1609.out)) : gb1609 ≠ gb1615)); have NB1615_1609 := Aside0.mk ((by rw [hg]; exact Nat.ne_of_gt (ZS (bq_ BK1609.out)) : gb1615 ≠ gb1609)); replace BK1609 := Aside0.mk (Zg (bq_ BK1609.out) hb); clear hb hbox hg; have hnb22 := NB1615_1603.out; have hnc22 := NB1603_1615.out; have hnb23 := NB1615_1609.out; have hnc23 := NB1609_1615.out; obtain ⟨hcz24_0, hcz24_1, hfz24_0, hfz24_1⟩ := c2_ BK1615.out; obtain ⟨Ao25, co25, eo25⟩ := ZN HO1613.out; subst eo25))
 (try simp only [Act.put, ZW, List.set_cons_zero, List.set_cons_succ])
 go_cut [] (fun wc => ∃ (kq : Nat), Aside0 (laws_FnDisputes.j0 kq l0 = some r) ∧ Aside0 (kq ≤ k) ∧ Aside0 (Below w.heap.size w wc))
 case first =>
  have H := HC8.out
  clear HC8
  by_cases c26 : t1608 = true
  rotate_left
  ·replace c26 := Bool.eq_false_iff.mpr c26
   subst c26
   rw [if_neg (show ¬ (false = true) by decide)] at H
   try dsimp only at H
   have H' := Aside0.mk H
   clear H
   go_wp2
   go_meet
   case rel => exact ⟨_, H', ⟨by first | omega | exact Nat.le_refl _⟩, ⟨hB_⟩⟩
  subst c26
  rw [if_pos rfl] at H
  try dsimp only at H
  obtain ⟨⟨t2096, t2097, t2100⟩, A27, H⟩ := bd_ H
  try dsimp only at H
  obtain ⟨t2102, A28, H⟩ := bd_ H
  try dsimp only at H
  by_cases c29 : t2102 = true
  rotate_left
  ·replace c29 := Bool.eq_false_iff.mpr c29
   subst c29
   rw [if_neg (show ¬ (false = true) by decide)] at H
   try dsimp only at H
   exact absurd H (by simp)
  subst c29
  rw [if_pos rfl] at H
  try dsimp only at H
  obtain ⟨t2103, A30, H⟩ := bd_ H
  try dsimp only at H
  by_cases c31 : t2103 = true
  rotate_left
  ·replace c31 := Bool.eq_false_iff.mpr c31
   subst c31
   rw [if_neg (show ¬ (false = true) by decide)] at H
   try dsimp only at H
   exact absurd H (by simp)
  subst c31
  rw [if_pos rfl] at H
  try dsimp only at H
  obtain ⟨t2104, A32, H⟩ := bd_ H
  try dsimp only at H
  obtain ⟨t2107, A33, H⟩ := bd_ H
  try dsimp only at H
  by_cases c34 : t2107 = true
  rotate_left
  ·replace c34 := Bool.eq_false_iff.mpr c34
   subst c34
   rw [if_neg (show ¬ (false = true) by decide)] at H
   try dsimp only at H
   exact absurd H (by simp)
  subst c34
  rw [if_pos rfl] at H
  try dsimp only at H
  by_cases c35 : t2100 = true
  rotate_left
  ·replace c35 := Bool.eq_false_iff.mpr c35
   subst c35
   rw [if_neg (show ¬ (false = true) by decide)] at H
   try dsimp only at H
   exact absurd H (by simp)
  subst c35
  rw [if_pos rfl] at H
  try dsimp only at H
  obtain ⟨t2108, A36, H⟩ := bd_ H
  try dsimp only at H
  by_cases c37 : t2108 = true
  rotate_left
  ·replace c37 := Bool.eq_false_iff.mpr c37
   subst c37
   rw [if_neg (show ¬ (false = true) by decide)] at H
   try dsimp only at H
   exact absurd H (by simp)
  subst c37
  rw [if_pos rfl] at H
  try dsimp only at H
  obtain ⟨t2109, A38, H⟩ := bd_ H
  try dsimp only at H
  by_cases c39 : t2109 = true
  rotate_left
  ·replace c39 := Bool.eq_false_iff.mpr c39
   subst c39
   rw [if_neg (show ¬ (false = true) by decide)] at H
   try dsimp only at H
   exact absurd H (by simp)
  subst c39
  rw [if_pos rfl] at H
  try dsimp only at H
  obtain ⟨t2110, A40, H⟩ := bd_ H
  try dsimp only at H
  obtain ⟨t2113, A41, H⟩ := bd_ H
  try dsimp only at H
  by_cases c42 : t2113 = true
  rotate_left
  ·replace c42 := Bool.eq_false_iff.mpr c42
   subst c42
   rw [if_neg (show ¬ (false = true) by decide)] at H
   try dsimp only at H
   exact absurd H (by simp)
  subst c42
  rw [if_pos rfl] at H
  try dsimp only at H
  have H' := Aside0.mk H
  clear H
  have hnb43 := NB1609_1603.out
  have hnc43 := NB1603_1609.out
  have hnb44 := NB1609_1615.out
  have hnc44 := NB1615_1609.out
  obtain ⟨hcz45_0, hcz45_1, hfz45_0, hfz45_1⟩ := c2_ BK1609.out
  have hnb46 := NB1603_1615.out
  have hnc46 := NB1615_1603.out
  obtain ⟨hcz47_0, hcz47_1, hfz47_0, hfz47_1⟩ := c2_ BK1603.out
  try go_wp2_with (first | ((with_reducible refine Zl (f := 44) rfl ?_); refine ZI (some 47) rfl rfl Try.func44 (by kernel_rfl) rfl #[.agg #[.int .i64 t1604, .slice Ao18 t1605.length co18], .int .i64 t1596] rfl ar_ ?_; (with_reducible refine (impl_Without.calls k t1604 _ _ t1605 t1596 t2096 t2097 true _ ?side1 ?side2 A27.out).mono ?_); (case side1 => refine (ZK (e := 31) (base := w.heap.size) (ok := fun k_ => (((True ∧ some k_ ≠ (.slice Ao12 t1597.length co12 : Value).ownBlock) ∧ some k_ ≠ (.slice Ao13 t1600.length co13 : Value).ownBlock) ∧ some k_ ≠ (.slice Ao25 t1611.length co25 : Value).ownBlock)) (n := t1605.length) (c := co18) ?_).2.2; exact (by (with_reducible repeat (first | apply Zs | apply Zr | apply Zp)); exact (Zt (Zq (p := ⟨gb1615, 1, none⟩) (Zq (p := ⟨gb1615, 0, none⟩) (Zv HO1607.out BK1615.out (by decide)) (fun _ hk => hk.2) (.int .i64 t1610)) (fun _ hk => hk.2) (.slice Ao25 t1611.length co25)) (fun _ h_ => h_.1)))); (case side2 => exact (ZK HO1607.out).2.1); rintro e w48 ⟨v2098, rfl, ho0, hb⟩; refine ⟨_, rfl, ?_⟩; have HO2099 := Aside0.mk (Kd.S_lower (Kd.S_new' (Kd.S_new' (Kd.S_new' (Kd.S_new' ho0 (Kd.S_lt (by (with_reducible repeat (first | apply Zs | apply Zr | apply Zp)); exact (Zt (Zq (p := ⟨gb1615, 1, none⟩) (Zq (p := ⟨gb1615, 0, none⟩) (Zv HO1599.out BK1615.out (by decide)) (fun _ hk => hk.2) (.int .i64 t1610)) (fun _ hk => hk.2) (.slice Ao25 t1611.length co25)) (fun _ h_ => h_.1))))) (Kd.R_lt (by (with_reducible repeat (first | apply ZP | apply ZO | apply ZU)); exact (Zw (Kd.R_far (p := ⟨gb1615, 1, none⟩) (Kd.R_far (p := ⟨gb1615, 0, none⟩) (Kd.R_types HO1602.out BK1615.out (by decide)) (fun _ hk => hk.2) (.int .i64 t1610)) (fun _ hk => hk.2) (.slice Ao25 t1611.length co25)) (fun _ h_ => h_.1))))) (Kd.S_lt (by (with_reducible repeat (first | apply Zs | apply Zr | apply Zp)); exact (Zt (Zq (p := ⟨gb1615, 1, none⟩) (Zq (p := ⟨gb1615, 0, none⟩) (Zv HO1607.out BK1615.out (by decide)) (fun _ hk => hk.2) (.int .i64 t1610)) (fun _ hk => hk.2) (.slice Ao25 t1611.length co25)) (fun _ h_ => h_.1))))) (Kd.S_lt (by (with_reducible repeat (first | apply Zs | apply Zr | apply Zp)); exact (Zt (Zq (p := ⟨gb1615, 1, none⟩) (Zq (p := ⟨gb1615, 0, none⟩) (Zv HO1613.out BK1615.out (by decide)) (fun _ hk => hk.2) (.int .i64 t1610)) (fun _ hk => hk.2) (.slice Ao25 t1611.length co25)) (fun _ h_ => h_.1))))) (Zm hB_)); replace HO1599 := Aside0.mk (Kd.S_elder' (by (with_reducible repeat (first | apply Zs | apply Zr | apply Zp)); exact (Zt (Zq (p := ⟨gb1615, 1, none⟩) (Zq (p := ⟨gb1615, 0, none⟩) (Zv HO1599.out BK1615.out (by decide)) (fun _ hk => hk.2) (.int .i64 t1610)) (fun _ hk => hk.2) (.slice Ao25 t1611.length co25)) (fun _ h_ => h_.1))) (Kd.S_base ho0) hb); replace HO1602 := Aside0.mk (Kd.R_below (by (with_reducible repeat (first | apply ZP | apply ZO | apply ZU)); exact (Zw (Kd.R_far (p := ⟨gb1615, 1, none⟩) (Kd.R_far (p := ⟨gb1615, 0, none⟩) (Kd.R_types HO1602.out BK1615.out (by decide)) (fun _ hk => hk.2) (.int .i64 t1610)) (fun _ hk => hk.2) (.slice Ao25 t1611.length co25)) (fun _ h_ => h_.1))) hb); replace HO1607 := Aside0.mk (Kd.S_elder' (by (with_reducible repeat (first | apply Zs | apply Zr | apply Zp)); exact (Zt (Zq (p := ⟨gb1615, 1, none⟩) (Zq (p := ⟨gb1615, 0, none⟩) (Zv HO1607.out BK1615.out (by decide)) (fun _ hk => hk.2) (.int .i64 t1610)) (fun _ hk => hk.2) (.slice Ao25 t1611.length co25)) (fun _ h_ => h_.1))) (Kd.S_base ho0) hb); replace HO1613 := Aside0.mk (Kd.S_elder' (by (with_reducible repeat (first | apply Zs | apply Zr | apply Zp)); exact (Zt (Zq (p := ⟨gb1615, 1, none⟩) (Zq (p := ⟨gb1615, 0, none⟩) (Zv HO1613.out BK1615.out (by decide)) (fun _ hk => hk.2) (.int .i64 t1610)) (fun _ hk => hk.2) (.slice Ao25 t1611.length co25)) (fun _ h_ => h_.1))) (Kd.S_base ho0) hb); replace BK1603 := Aside0.mk (Zg (g := gb1603) (o := .cells #[.int .i64 t1596, .slice Ao12 t1597.length co12] 27 (0, 0)) (by (with_reducible repeat (first | refine Ze ?_ _ | refine Zf ?_ | refine Zd ?_ _)); refine ZG ?_ NB1603_1615.out _; (with_reducible repeat (first | refine Ze ?_ _ | refine Zf ?_ | refine Zd ?_ _)); refine ZG ?_ NB1603_1615.out _; (with_reducible repeat (first | refine Ze ?_ _ | refine Zf ?_ | refine Zd ?_ _)); exact BK1603.out) hb); replace BK1609 := Aside0.mk (Zg (g := gb1609) (o := .cells #[.int .i64 t1604, .slice Ao18 t1605.length co18] 27 (0, 0)) (by (with_reducible repeat (first | refine Ze ?_ _ | refine Zf ?_ | refine Zd ?_ _)); refine ZG ?_ NB1609_1615.out _; (with_reducible repeat (first | refine Ze ?_ _ | refine Zf ?_ | refine Zd ?_ _)); refine ZG ?_ NB1609_1615.out _; (with_reducible repeat (first | refine Ze ?_ _ | refine Zf ?_ | refine Zd ?_ _)); exact BK1609.out) hb); replace BK1615 := Aside0.mk (Zg (g := gb1615) (o := .cells #[.int .i64 t1610, .slice Ao25 t1611.length co25] 27 (0, 0)) (by (with_reducible repeat (first | refine Ze ?_ _ | refine Zf ?_ | refine Zd ?_ _)); refine ZB (cs := #[.int .i64 t1610, .slice none 0 0]) ?_ 1 _ rfl; (with_reducible repeat (first | refine Ze ?_ _ | refine Zf ?_ | refine Zd ?_ _)); refine ZB (cs := #[.int .i64 0, .slice none 0 0]) ?_ 0 _ rfl; (with_reducible repeat (first | refine Ze ?_ _ | refine Zf ?_ | refine Zd ?_ _)); exact BK1615.out) hb); replace HB := Aside0.mk (Zh hB_ hb); (try clear hb); (try clear hk); (try clear ho0)) | ((with_reducible refine ZA (N := 9) rfl ?_); (try (refine gate_guard (by rfl) ?_; dsimp only)); refine ZC ?hg (N := 9) ?hd (cs := #[.int .i64 0, .slice none 0 0]) (t := 27) ?hr ?_; (case hd => rfl); (case hg => rfl); (case hr => first | (go_simp; done) | (go_simp; rfl)); intro gb2101 hg w49 hbox hb; replace HO1599 := Aside0.mk (Zz (rS_ HO1599.out) hb); replace HO1602 := Aside0.mk (Kd.R_below (rR_ HO1602.out) hb); replace HO1607 := Aside0.mk (Zz (rS_ HO1607.out) hb); replace HO1613 := Aside0.mk (Zz (rS_ HO1613.out) hb); replace HO2099 := Aside0.mk (Zz (rS_ HO2099.out) hb); have BK2101 := Aside0.mk (hbox); have GW2101 := Aside0.mk ((hz_ hg : w.heap.size ≤ gb2101)); have GE2101 := Aside0.mk ((hz_ hg : w.heap.size ≤ gb2101)); replace HB := Aside0.mk (Zh hB_ hb); have NB1603_2101 := Aside0.mk ((by rw [hg]; exact Nat.ne_of_lt (ZS (bq_ BK1603.out)) : gb1603 ≠ gb2101)); have NB2101_1603 := Aside0.mk ((by rw [hg]; exact Nat.ne_of_gt (ZS (bq_ BK1603.out)) : gb2101 ≠ gb1603)); replace BK1603 := Aside0.mk (Zg (bq_ BK1603.out) hb); have NB1609_2101 := Aside0.mk ((by rw [hg]; exact Nat.ne_of_lt (ZS (bq_ BK1609.out)) : gb1609 ≠ gb2101)); have NB2101_1609 := Aside0.mk ((by rw [hg]; exact Nat.ne_of_gt (ZS (bq_ BK1609.out)) : gb2101 ≠ gb1609)); replace BK1609 := Aside0.mk (Zg (bq_ BK1609.out) hb); have NB1615_2101 := Aside0.mk ((by rw [hg]; exact Nat.ne_of_lt (ZS (bq_ BK1615.out)) : gb1615 ≠ gb2101)); have NB2101_1615 := Aside0.mk ((by rw [hg]; exact Nat.ne_of_gt (ZS (bq_ BK1615.out)) : gb2101 ≠ gb1615)); replace BK1615 := Aside0.mk (Zg (bq_ BK1615.out) hb); clear hb hbox hg; have hnb50 := NB2101_1603.out; have hnc50 := NB1603_2101.out; have hnb51 := NB2101_1609.out; have hnc51 := NB1609_2101.out; have hnb52 := NB2101_1615.out; have hnc52 := NB1615_2101.out; obtain ⟨hcz53_0, hcz53_1, hfz53_0, hfz53_1⟩ := c2_ BK2101.out; obtain ⟨Ao54, co54, eo54⟩ := ZN HO2099.out; subst eo54))
  have n0_ : Aside0 (Kd.S (Kd.slice 3 (Kd.int .i64)) 31 ((w49.setCell ⟨gb2101, 0, none⟩ (.int .i64 t2096)).setCell ⟨gb2101, 1, none⟩ (.slice Ao54 t2097.length co54)) w.heap.size (fun k_ => some k_ ≠ (.slice Ao13 t1600.length co13 : Value).ownBlock ∧ some k_ ≠ (.slice Ao18 t1605.length co18 : Value).ownBlock ∧ some k_ ≠ (.slice Ao25 t1611.length co25 : Value).ownBlock ∧ some k_ ≠ (.slice Ao54 t2097.length co54 : Value).ownBlock) (.slice Ao12 t1597.length co12) t1597) := ⟨by (with_reducible repeat (first | apply Zs | apply Zr | apply Zp)); exact Zt (Zq (p := ⟨gb2101, 1, none⟩) (Zq (p := ⟨gb2101, 0, none⟩) (Zv HO1599.out BK2101.out (by decide)) (fun _ hk => hk.2) (.int .i64 t2096)) (fun _ hk => hk.2) (.slice Ao54 t2097.length co54)) (fun _ hk => ⟨hk.1.1.1.1, ⟨hk.1.1.1.2, ⟨hk.1.1.2, hk.1.2⟩⟩⟩)⟩
  have n1_ : Aside0 (Kd.R (Kd.int .i64) 3 ((w49.setCell ⟨gb2101, 0, none⟩ (.int .i64 t2096)).setCell ⟨gb2101, 1, none⟩ (.slice Ao54 t2097.length co54)) w.heap.size (fun _ => True) (.slice Ao13 t1600.length co13) t1600) := ⟨by (with_reducible repeat (first | apply ZP | apply ZO | apply ZU)); exact Zw (Kd.R_far (p := ⟨gb2101, 1, none⟩) (Kd.R_far (p := ⟨gb2101, 0, none⟩) (Kd.R_types HO1602.out BK2101.out (by decide)) (fun _ hk => hk.2) (.int .i64 t2096)) (fun _ hk => hk.2) (.slice Ao54 t2097.length co54)) (fun _ hk => trivial)⟩
  have n2_ : Aside0 (Kd.S (Kd.slice 3 (Kd.int .i64)) 31 ((w49.setCell ⟨gb2101, 0, none⟩ (.int .i64 t2096)).setCell ⟨gb2101, 1, none⟩ (.slice Ao54 t2097.length co54)) w.heap.size (fun k_ => some k_ ≠ (.slice Ao12 t1597.length co12 : Value).ownBlock ∧ some k_ ≠ (.slice Ao13 t1600.length co13 : Value).ownBlock ∧ some k_ ≠ (.slice Ao25 t1611.length co25 : Value).ownBlock ∧ some k_ ≠ (.slice Ao54 t2097.length co54 : Value).ownBlock) (.slice Ao18 t1605.length co18) t1605) := ⟨by (with_reducible repeat (first | apply Zs | apply Zr | apply Zp)); exact Zt (Zq (p := ⟨gb2101, 1, none⟩) (Zq (p := ⟨gb2101, 0, none⟩) (Zv HO1607.out BK2101.out (by decide)) (fun _ hk => hk.2) (.int .i64 t2096)) (fun _ hk => hk.2) (.slice Ao54 t2097.length co54)) (fun _ hk => ⟨hk.1.1.1.1.2, ⟨hk.1.1.1.2, ⟨hk.1.1.2, hk.1.2⟩⟩⟩)⟩
  have n3_ : Aside0 (Kd.S (Kd.slice 3 (Kd.int .i64)) 31 ((w49.setCell ⟨gb2101, 0, none⟩ (.int .i64 t2096)).setCell ⟨gb2101, 1, none⟩ (.slice Ao54 t2097.length co54)) w.heap.size (fun k_ => some k_ ≠ (.slice Ao12 t1597.length co12 : Value).ownBlock ∧ some k_ ≠ (.slice Ao13 t1600.length co13 : Value).ownBlock ∧ some k_ ≠ (.slice Ao18 t1605.length co18 : Value).ownBlock ∧ some k_ ≠ (.slice Ao54 t2097.length co54 : Value).ownBlock) (.slice Ao25 t1611.length co25) t1611) := ⟨by (with_reducible repeat (first | apply Zs | apply Zr | apply Zp)); exact Zt (Zq (p := ⟨gb2101, 1, none⟩) (Zq (p := ⟨gb2101, 0, none⟩) (Zv HO1613.out BK2101.out (by decide)) (fun _ hk => hk.2) (.int .i64 t2096)) (fun _ hk => hk.2) (.slice Ao54 t2097.length co54)) (fun _ hk => ⟨hk.1.1.1.1.2, ⟨hk.1.1.1.2, ⟨hk.1.1.2, hk.1.2⟩⟩⟩)⟩
  have n4_ : Aside0 (Kd.S (Kd.slice 3 (Kd.int .i64)) 31 ((w49.setCell ⟨gb2101, 0, none⟩ (.int .i64 t2096)).setCell ⟨gb2101, 1, none⟩ (.slice Ao54 t2097.length co54)) w.heap.size (fun k_ => some k_ ≠ (.slice Ao12 t1597.length co12 : Value).ownBlock ∧ some k_ ≠ (.slice Ao13 t1600.length co13 : Value).ownBlock ∧ some k_ ≠ (.slice Ao18 t1605.length co18 : Value).ownBlock ∧ some k_ ≠ (.slice Ao25 t1611.length co25 : Value).ownBlock) (.slice Ao54 t2097.length co54) t2097) := ⟨by (with_reducible repeat (first | apply Zs | apply Zr | apply Zp)); exact Zt (Zq (p := ⟨gb2101, 1, none⟩) (Zq (p := ⟨gb2101, 0, none⟩) (Zv HO2099.out BK2101.out (by decide)) (fun _ hk => hk.2) (.int .i64 t2096)) (fun _ hk => hk.2) (.slice Ao54 t2097.length co54)) (fun _ hk => ⟨hk.1.1.1.1.2, ⟨hk.1.1.1.2, ⟨hk.1.1.2, hk.1.2⟩⟩⟩)⟩
  have n5_ : Aside0 (((w49.setCell ⟨gb2101, 0, none⟩ (.int .i64 t2096)).setCell ⟨gb2101, 1, none⟩ (.slice Ao54 t2097.length co54)).heap[gb1603]? = some (.cells #[.int .i64 t1596, .slice Ao12 t1597.length co12] 27 (0, 0))) := ⟨by (with_reducible repeat (first | refine Ze ?_ _ | refine Zf ?_ | refine Zd ?_ _)); refine ZG ?_ NB1603_2101.out _; (with_reducible repeat (first | refine Ze ?_ _ | refine Zf ?_ | refine Zd ?_ _)); refine ZG ?_ NB1603_2101.out _; (with_reducible repeat (first | refine Ze ?_ _ | refine Zf ?_ | refine Zd ?_ _)); exact BK1603.out⟩
  have n6_ : Aside0 (((w49.setCell ⟨gb2101, 0, none⟩ (.int .i64 t2096)).setCell ⟨gb2101, 1, none⟩ (.slice Ao54 t2097.length co54)).heap[gb1609]? = some (.cells #[.int .i64 t1604, .slice Ao18 t1605.length co18] 27 (0, 0))) := ⟨by (with_reducible repeat (first | refine Ze ?_ _ | refine Zf ?_ | refine Zd ?_ _)); refine ZG ?_ NB1609_2101.out _; (with_reducible repeat (first | refine Ze ?_ _ | refine Zf ?_ | refine Zd ?_ _)); refine ZG ?_ NB1609_2101.out _; (with_reducible repeat (first | refine Ze ?_ _ | refine Zf ?_ | refine Zd ?_ _)); exact BK1609.out⟩
  have n7_ : Aside0 (((w49.setCell ⟨gb2101, 0, none⟩ (.int .i64 t2096)).setCell ⟨gb2101, 1, none⟩ (.slice Ao54 t2097.length co54)).heap[gb1615]? = some (.cells #[.int .i64 t1610, .slice Ao25 t1611.length co25] 27 (0, 0))) := ⟨by (with_reducible repeat (first | refine Ze ?_ _ | refine Zf ?_ | refine Zd ?_ _)); refine ZG ?_ NB1615_2101.out _; (with_reducible repeat (first | refine Ze ?_ _ | refine Zf ?_ | refine Zd ?_ _)); refine ZG ?_ NB1615_2101.out _; (with_reducible repeat (first | refine Ze ?_ _ | refine Zf ?_ | refine Zd ?_ _)); exact BK1615.out⟩
  have n8_ : Aside0 (((w49.setCell ⟨gb2101, 0, none⟩ (.int .i64 t2096)).setCell ⟨gb2101, 1, none⟩ (.slice Ao54 t2097.length co54)).heap[gb2101]? = some (.cells #[.int .i64 t2096, .slice Ao54 t2097.length co54] 27 (0, 0))) := ⟨by (with_reducible repeat (first | refine Ze ?_ _ | refine Zf ?_ | refine Zd ?_ _)); refine ZB (cs := #[.int .i64 t2096, .slice none 0 0]) ?_ 1 _ rfl; (with_reducible repeat (first | refine Ze ?_ _ | refine Zf ?_ | refine Zd ?_ _)); refine ZB (cs := #[.int .i64 0, .slice none 0 0]) ?_ 0 _ rfl; (with_reducible repeat (first | refine Ze ?_ _ | refine Zf ?_ | refine Zd ?_ _)); exact BK2101.out⟩
  have n9_ : Aside0 (Below w.heap.size w ((w49.setCell ⟨gb2101, 0, none⟩ (.int .i64 t2096)).setCell ⟨gb2101, 1, none⟩ (.slice Ao54 t2097.length co54))) := ⟨hB_⟩
  (try clear HO1599)
  (try clear HO1602)
  (try clear HO1607)
  (try clear HO1613)
  (try clear HO2099)
  (try clear BK1603)
  (try clear BK1609)
  (try clear BK1615)
  (try clear BK2101)
  (try clear HB)
  generalize ((w49.setCell ⟨gb2101, 0, none⟩ (.int .i64 t2096)).setCell ⟨gb2101, 1, none⟩ (.slice Ao54 t2097.length co54)) = w55 at n0_ n1_ n2_ n3_ n4_ n5_ n6_ n7_ n8_ n9_ ⊢
  have HO1599 := n0_
  have HO1602 := n1_
  have HO1607 := n2_
  have HO1613 := n3_
  have HO2099 := n4_
  have BK1603 := n5_
  have BK1609 := n6_
  have BK1615 := n7_
  have BK2101 := n8_
  have HB := n9_
  clear n0_ n1_ n2_ n3_ n4_ n5_ n6_ n7_ n8_ n9_
  replace HO1599 := Aside0.mk (Zp HO1599.out)
  replace HO1602 := Aside0.mk (ZU HO1602.out)
  replace HO1607 := Aside0.mk (Zp HO1607.out)
  replace HO1613 := Aside0.mk (Zp HO1613.out)
  replace HO2099 := Aside0.mk (Zp HO2099.out)
  replace BK1603 := Aside0.mk (Zf BK1603.out)
  replace BK1609 := Aside0.mk (Zf BK1609.out)
  replace BK1615 := Aside0.mk (Zf BK1615.out)
  replace BK2101 := Aside0.mk (Zf BK2101.out)
  replace HB := Aside0.mk (Zj HB.out)
  refine start_ (n := 42) (S := fun w' => w'.cell? ⟨gb1609, 0, none⟩ = some (.int .i64 t1604) ∧ w'.cell? ⟨gb1609, 1, none⟩ = some (.slice Ao18 t1605.length co18) ∧ w'.cell? ⟨gb1603, 0, none⟩ = some (.int .i64 t1596) ∧ w'.cell? ⟨gb1603, 1, none⟩ = some (.slice Ao12 t1597.length co12) ∧ w'.cell? ⟨gb2101, 0, none⟩ = some (.int .i64 t2096) ∧ w'.cell? ⟨gb2101, 1, none⟩ = some (.slice Ao54 t2097.length co54)) (ds := []) (m_ 42 0) (by kernel_rfl) rfl rfl ⟨(Za BK1609.out 0).trans rfl, (Za BK1609.out 1).trans rfl, (Za BK1603.out 0).trans rfl, (Za BK1603.out 1).trans rfl, (Za BK2101.out 0).trans rfl, (Za BK2101.out 1).trans rfl⟩ (fun hHeld => ?_); refine with_tabW laws_FnDisputes.tab10 laws_FnDisputes.bits10 (fun HT_ HW_ => ?_)
  generalize w55.drew = w56 at HO1599 HO1602 HO1607 HO1613 HO2099 BK1603 BK1609 BK1615 BK2101 HB hHeld ⊢
  refine tk6_ 0 50 (m_ 42 1) hHeld ?_
  refine on_ 1 51 (m_ 42 3) (fun K hK => ?_)
  refine goes_ Try.func24 (by kernel_rfl) rfl #[.agg #[.int .i64 t1604, .slice Ao18 t1605.length co18]] (by rfl) rfl rfl ar_ ?_
  with_reducible refine (impl_IsGraph.calls k t1604 _ _ t1605 true _ ?side1 ?side2 A28.out).mono ?_
  (case side1 => exact sA_ (ZK HO1607.out).2.2)
  (case side2 => exact (ZK HO1607.out).2.1)
  rintro e w57 ⟨rfl, hb⟩
  refine ⟨_, rfl, ?_⟩
  replace HO1599 := Aside0.mk (Zz (rS_ HO1599.out) hb)
  replace HO1602 := Aside0.mk (Kd.R_below (rR_ HO1602.out) hb)
  replace HO1607 := Aside0.mk (Zz (rS_ HO1607.out) hb)
  replace HO1613 := Aside0.mk (Zz (rS_ HO1613.out) hb)
  replace HO2099 := Aside0.mk (Zz (rS_ HO2099.out) hb)
  replace BK1603 := Aside0.mk (Zg (bq_ BK1603.out) hb)
  replace BK1609 := Aside0.mk (Zg (bq_ BK1609.out) hb)
  replace BK1615 := Aside0.mk (Zg (bq_ BK1615.out) hb)
  replace BK2101 := Aside0.mk (Zg (bq_ BK2101.out) hb)
  replace HB := Aside0.mk (Zh hB_ hb)
  (try clear hb)
  (try clear hb2)
  (try clear hk)
  (try clear hi)
  refine hK.out _ _ ⟨(Za BK1609.out 0).trans rfl, (Za BK1609.out 1).trans rfl, (Za BK1603.out 0).trans rfl, (Za BK1603.out 1).trans rfl, (Za BK2101.out 0).trans rfl, (Za BK2101.out 1).trans rfl⟩ (fun hHeld => ?_)
  clear hK K
  refine no_ 51 ?_
  refine pu_ 2 52 (m_ 42 7) ?_
  refine pu_ 3 53 (m_ 42 15) ?_
  refine tk6_ 4 54 (m_ 42 31) hHeld ?_
  refine tk6_ 5 55 (m_ 42 63) hHeld ?_
  refine on_ 6 56 (m_ 42 127) (fun K hK => ?_)
  refine goes_ Try.func45 (by kernel_rfl) rfl #[.agg #[.int .i64 t1596, .slice Ao12 t1597.length co12], .agg #[.int .i64 t1604, .slice Ao18 t1605.length co18]] (by rfl) rfl rfl ar_ ?_
  with_reducible refine (impl_IsPartOf.calls k t1596 _ _ t1597 t1604 (fun k_ => (((((some k_ ≠ (.slice Ao12 t1597.length co12 : Value).ownBlock ∧ (some k_ ≠ (.slice Ao13 t1600.length co13 : Value).ownBlock ∧ (some k_ ≠ (.slice Ao25 t1611.length co25 : Value).ownBlock ∧ some k_ ≠ (.slice Ao54 t2097.length co54 : Value).ownBlock))) ∧ k_ ≠ gb1603) ∧ k_ ≠ gb1609) ∧ k_ ≠ gb1615) ∧ k_ ≠ gb2101)) _ _ t1605 true _ ?side1 ?side2 ?side3 A30.out).mono ?_
  (case side1 => exact sA_ (ZK HO1599.out).2.2)
  (case side2 => exact (ZK HO1599.out).2.1)
  (case side3 => exact Kd.S_V (Zv (Zv (Zv (Zv (HO1607.out) BK1603.out (by decide)) BK1609.out (by decide)) BK1615.out (by decide)) BK2101.out (by decide)))
  rintro e w58 ⟨rfl, hb⟩
  refine ⟨_, rfl, ?_⟩
  replace HO1599 := Aside0.mk (Zz (rS_ HO1599.out) hb)
  replace HO1602 := Aside0.mk (Kd.R_below (rR_ HO1602.out) hb)
  replace HO1607 := Aside0.mk (Zz (rS_ HO1607.out) hb)
  replace HO1613 := Aside0.mk (Zz (rS_ HO1613.out) hb)
  replace HO2099 := Aside0.mk (Zz (rS_ HO2099.out) hb)
  replace BK1603 := Aside0.mk (Zg (bq_ BK1603.out) hb)
  replace BK1609 := Aside0.mk (Zg (bq_ BK1609.out) hb)
  replace BK1615 := Aside0.mk (Zg (bq_ BK1615.out) hb)
  replace BK2101 := Aside0.mk (Zg (bq_ BK2101.out) hb)
  replace HB := Aside0.mk (Zh hB_ hb)
  (try clear hb)
  (try clear hb2)
  (try clear hk)
  (try clear hi)
  refine hK.out _ _ ⟨(Za BK1609.out 0).trans rfl, (Za BK1609.out 1).trans rfl, (Za BK1603.out 0).trans rfl, (Za BK1603.out 1).trans rfl, (Za BK2101.out 0).trans rfl, (Za BK2101.out 1).trans rfl⟩ (fun hHeld => ?_)
  clear hK K
  refine no_ 56 ?_
  refine pu_ 7 57 (m_ 42 255) ?_
  refine pu_ 8 58 (m_ 42 511) ?_
  refine pu_ 9 59 (m_ 42 1023) ?_
  refine pu_ 11 61 (m_ 42 3071) ?_
  refine pu_ 14 64 (m_ 42 19455) ?_
  refine tk6_ 10 60 (m_ 42 20479) hHeld ?_
  refine tk6_ 12 62 (m_ 42 24575) hHeld ?_
  refine on_ 13 63 (m_ 42 32767) (fun K hK => ?_)
  refine goes_ Try.func46 (by kernel_rfl) rfl #[.agg #[.int .i64 t1604, .slice Ao18 t1605.length co18], .int .i64 t1596] (by rfl) rfl rfl ar_ ?_
  with_reducible refine (impl_VictimsOf.calls k t1604 _ _ t1605 t1596 t2104 _ ?side1 ?side2 A32.out).mono ?_
  (case side1 => exact sA_ (ZK HO1607.out).2.2)
  (case side2 => exact (ZK HO1607.out).2.1)
  rintro e w59 ⟨v2105, rfl, ho0, hb⟩
  refine ⟨_, rfl, ?_⟩
  replace HO1599 := Aside0.mk (Kd.S_elder' (rS_ HO1599.out) (Kd.R_base ho0) hb)
  replace HO1607 := Aside0.mk (Kd.S_elder' (rS_ HO1607.out) (Kd.R_base ho0) hb)
  replace HO1613 := Aside0.mk (Kd.S_elder' (rS_ HO1613.out) (Kd.R_base ho0) hb)
  replace HO2099 := Aside0.mk (Kd.S_elder' (rS_ HO2099.out) (Kd.R_base ho0) hb)
  have HO2106 := Aside0.mk (Kd.R_lower (Kd.R_new' ho0 (Kd.R_lt (rR_ HO1602.out))) (Zm hB_))
  replace HO1602 := Aside0.mk (Kd.R_elder' (rR_ HO1602.out) (Kd.R_base ho0) hb)
  replace BK1603 := Aside0.mk (Zg (bq_ BK1603.out) hb)
  replace BK1609 := Aside0.mk (Zg (bq_ BK1609.out) hb)
  replace BK1615 := Aside0.mk (Zg (bq_ BK1615.out) hb)
  replace BK2101 := Aside0.mk (Zg (bq_ BK2101.out) hb)
  replace HB := Aside0.mk (Zh hB_ hb)
  (try clear hb)
  (try clear hb2)
  (try clear hk)
  (try clear hi)
  (try clear ho0)
  obtain ⟨Ao60, co60, eo60⟩ := Kd.R_slice HO2106.out
  (first | subst eo60 | (injection eo60 with f1_ f2_ f3_; have f4_ := f1_.symm; have f5_ := f3_.symm; clear f1_ f2_ f3_; subst f4_; subst f5_))
  refine hK.out _ _ ⟨(Za BK1609.out 0).trans rfl, (Za BK1609.out 1).trans rfl, (Za BK1603.out 0).trans rfl, (Za BK1603.out 1).trans rfl, (Za BK2101.out 0).trans rfl, (Za BK2101.out 1).trans rfl⟩ (fun hHeld => ?_)
  clear hK K
  refine no_ 63 ?_
  refine on_ 15 65 (m_ 42 65535) (fun K hK => ?_)
  refine goes_ Try.func28 (by kernel_rfl) rfl #[.slice Ao60 t2104.length co60, .slice Ao13 t1600.length co13] (by rfl) rfl rfl ar_ ?_
  with_reducible refine (laws_sameInts.calls k _ _ t2104 _ _ t1600 true _ ?side1 ?side2 ?side3 ?side4 A33.out).mono ?_
  (case side1 => exact sA_ (ZF HO2106.out).2.2)
  (case side2 => exact (ZF HO2106.out).2.1)
  (case side3 => exact sA_ (ZF HO1602.out).2.2)
  (case side4 => exact (ZF HO1602.out).2.1)
  rintro e w' ⟨rfl, ⟨nd, rfl⟩⟩
  refine ⟨_, rfl, ?_⟩
  refine hK.out _ _ ⟨(Za BK1609.out 0).trans rfl, (Za BK1609.out 1).trans rfl, (Za BK1603.out 0).trans rfl, (Za BK1603.out 1).trans rfl, (Za BK2101.out 0).trans rfl, (Za BK2101.out 1).trans rfl⟩ (fun hHeld => ?_)
  clear hK K
  refine no_ 65 ?_
  refine pu_ 16 66 (m_ 42 131071) ?_
  refine pu_ 17 67 (m_ 42 262143) ?_
  refine pu_ 18 68 (m_ 42 524287) ?_
  refine pu_ 19 69 (m_ 42 1048575) ?_
  refine pu_ 20 70 (m_ 42 2097151) ?_
  refine pu_ 21 71 (m_ 42 4194303) ?_
  refine pu_ 22 72 (m_ 42 8388607) ?_
  refine tk6_ 23 73 (m_ 42 16777215) hHeld ?_
  refine tk6_ 24 74 (m_ 42 33554431) hHeld ?_
  refine on_ 25 75 (m_ 42 67108863) (fun K hK => ?_)
  refine goes_ Try.func45 (by kernel_rfl) rfl #[.agg #[.int .i64 t2096, .slice Ao54 t2097.length co54], .agg #[.int .i64 t1596, .slice Ao12 t1597.length co12]] (by rfl) rfl rfl ar_ ?_
  with_reducible refine (impl_IsPartOf.calls k t2096 _ _ t2097 t1596 (fun k_ => ((((((some k_ ≠ (.slice Ao13 t1600.length co13 : Value).ownBlock ∧ (some k_ ≠ (.slice Ao18 t1605.length co18 : Value).ownBlock ∧ (some k_ ≠ (.slice Ao25 t1611.length co25 : Value).ownBlock ∧ some k_ ≠ (.slice Ao54 t2097.length co54 : Value).ownBlock))) ∧ some k_ ≠ (.slice Ao60 t2104.length co60 : Value).ownBlock) ∧ k_ ≠ gb1603) ∧ k_ ≠ gb1609) ∧ k_ ≠ gb1615) ∧ k_ ≠ gb2101)) _ _ t1597 true _ ?side1 ?side2 ?side3 A36.out).mono ?_
  (case side1 => exact sA_ (ZK HO2099.out).2.2)
  (case side2 => exact (ZK HO2099.out).2.1)
  (case side3 => exact Kd.S_V (Zv (Zv (Zv (Zv (HO1599.out) BK1603.out (by decide)) BK1609.out (by decide)) BK1615.out (by decide)) BK2101.out (by decide)))
  rintro e w61 ⟨rfl, hb⟩
  refine ⟨_, rfl, ?_⟩
  replace HO1599 := Aside0.mk (Zz (rS_ HO1599.out) hb)
  replace HO1602 := Aside0.mk (Kd.R_below (rR_ HO1602.out) hb)
  replace HO1607 := Aside0.mk (Zz (rS_ HO1607.out) hb)
  replace HO1613 := Aside0.mk (Zz (rS_ HO1613.out) hb)
  replace HO2099 := Aside0.mk (Zz (rS_ HO2099.out) hb)
  replace HO2106 := Aside0.mk (Kd.R_below (rR_ HO2106.out) hb)
  replace BK1603 := Aside0.mk (Zg (bq_ BK1603.out) hb)
  replace BK1609 := Aside0.mk (Zg (bq_ BK1609.out) hb)
  replace BK1615 := Aside0.mk (Zg (bq_ BK1615.out) hb)
  replace BK2101 := Aside0.mk (Zg (bq_ BK2101.out) hb)
  replace HB := Aside0.mk (Zh hB_ hb)
  (try clear hb)
  (try clear hb2)
  (try clear hk)
  (try clear hi)
  refine hK.out _ _ ⟨(Za BK1609.out 0).trans rfl, (Za BK1609.out 1).trans rfl, (Za BK1603.out 0).trans rfl, (Za BK1603.out 1).trans rfl, (Za BK2101.out 0).trans rfl, (Za BK2101.out 1).trans rfl⟩ (fun hHeld => ?_)
  clear hK K
  refine no_ 75 ?_
  refine pu_ 26 76 (m_ 42 134217727) ?_
  refine pu_ 27 77 (m_ 42 268435455) ?_
  refine pu_ 28 78 (m_ 42 536870911) ?_
  refine tk6_ 29 79 (m_ 42 1073741823) hHeld ?_
  refine tk6_ 30 80 (m_ 42 2147483647) hHeld ?_
  refine on_ 31 81 (m_ 42 4294967295) (fun K hK => ?_)
  refine goes_ Try.func45 (by kernel_rfl) rfl #[.agg #[.int .i64 t1596, .slice Ao12 t1597.length co12], .agg #[.int .i64 t2096, .slice Ao54 t2097.length co54]] (by rfl) rfl rfl ar_ ?_
  with_reducible refine (impl_IsPartOf.calls k t1596 _ _ t1597 t2096 (fun k_ => ((((((some k_ ≠ (.slice Ao12 t1597.length co12 : Value).ownBlock ∧ (some k_ ≠ (.slice Ao13 t1600.length co13 : Value).ownBlock ∧ (some k_ ≠ (.slice Ao18 t1605.length co18 : Value).ownBlock ∧ some k_ ≠ (.slice Ao25 t1611.length co25 : Value).ownBlock))) ∧ some k_ ≠ (.slice Ao60 t2104.length co60 : Value).ownBlock) ∧ k_ ≠ gb1603) ∧ k_ ≠ gb1609) ∧ k_ ≠ gb1615) ∧ k_ ≠ gb2101)) _ _ t2097 true _ ?side1 ?side2 ?side3 A38.out).mono ?_
  (case side1 => exact sA_ (ZK HO1599.out).2.2)
  (case side2 => exact (ZK HO1599.out).2.1)
  (case side3 => exact Kd.S_V (Zv (Zv (Zv (Zv (HO2099.out) BK1603.out (by decide)) BK1609.out (by decide)) BK1615.out (by decide)) BK2101.out (by decide)))
  rintro e w62 ⟨rfl, hb⟩
  refine ⟨_, rfl, ?_⟩
  replace HO1599 := Aside0.mk (Zz (rS_ HO1599.out) hb)
  replace HO1602 := Aside0.mk (Kd.R_below (rR_ HO1602.out) hb)
  replace HO1607 := Aside0.mk (Zz (rS_ HO1607.out) hb)
  replace HO1613 := Aside0.mk (Zz (rS_ HO1613.out) hb)
  replace HO2099 := Aside0.mk (Zz (rS_ HO2099.out) hb)
  replace HO2106 := Aside0.mk (Kd.R_below (rR_ HO2106.out) hb)
  replace BK1603 := Aside0.mk (Zg (bq_ BK1603.out) hb)
  replace BK1609 := Aside0.mk (Zg (bq_ BK1609.out) hb)
  replace BK1615 := Aside0.mk (Zg (bq_ BK1615.out) hb)
  replace BK2101 := Aside0.mk (Zg (bq_ BK2101.out) hb)
  replace HB := Aside0.mk (Zh hB_ hb)
  (try clear hb)
  (try clear hb2)
  (try clear hk)
  (try clear hi)
  refine hK.out _ _ ⟨(Za BK1609.out 0).trans rfl, (Za BK1609.out 1).trans rfl, (Za BK1603.out 0).trans rfl, (Za BK1603.out 1).trans rfl, (Za BK2101.out 0).trans rfl, (Za BK2101.out 1).trans rfl⟩ (fun hHeld => ?_)
  clear hK K
  refine no_ 81 ?_
  refine pu_ 32 82 (m_ 42 8589934591) ?_
  refine pu_ 33 83 (m_ 42 17179869183) ?_
  refine pu_ 34 84 (m_ 42 34359738367) ?_
  refine pu_ 37 87 (m_ 42 171798691839) ?_
  refine tk6_ 35 85 (m_ 42 206158430207) hHeld ?_
  refine tk6_ 38 88 (m_ 42 481036337151) hHeld ?_
  refine on_ 36 86 (m_ 42 549755813887) (fun K hK => ?_)
  refine goes_ Try.func27 (by kernel_rfl) rfl #[.agg #[.int .i64 t1604, .slice Ao18 t1605.length co18]] (by rfl) rfl rfl ar_ ?_
  with_reducible refine (impl_Grounded.calls k t1604 _ _ t1605 t2110 _ ?side1 ?side2 A40.out).mono ?_
  (case side1 => exact sA_ (ZK HO1607.out).2.2)
  (case side2 => exact (ZK HO1607.out).2.1)
  rintro e w63 ⟨v2111, rfl, ho0, hb⟩
  refine ⟨_, rfl, ?_⟩
  have HO2112 := Aside0.mk (Kd.V_lower (Kd.V_mono (ok' := fun k_ => some k_ ≠ (.slice Ao12 t1597.length co12 : Value).ownBlock ∧ some k_ ≠ (.slice Ao13 t1600.length co13 : Value).ownBlock ∧ some k_ ≠ (.slice Ao18 t1605.length co18 : Value).ownBlock ∧ some k_ ≠ (.slice Ao25 t1611.length co25 : Value).ownBlock ∧ some k_ ≠ (.slice Ao54 t2097.length co54 : Value).ownBlock ∧ some k_ ≠ (.slice Ao60 t2104.length co60 : Value).ownBlock ∧ k_ ≠ gb1603 ∧ k_ ≠ gb1609 ∧ k_ ≠ gb1615 ∧ k_ ≠ gb2101) ho0 (fun k_ hk_ => ⟨(Kd.fresh' (Kd.S_lt (rS_ HO1599.out)) k_ hk_), (Kd.fresh' (Kd.R_lt (rR_ HO1602.out)) k_ hk_), (Kd.fresh' (Kd.S_lt (rS_ HO1607.out)) k_ hk_), (Kd.fresh' (Kd.S_lt (rS_ HO1613.out)) k_ hk_), (Kd.fresh' (Kd.S_lt (rS_ HO2099.out)) k_ hk_), (Kd.fresh' (Kd.R_lt (rR_ HO2106.out)) k_ hk_), (Kd.freshB (bq_ BK1603.out) k_ hk_), (Kd.freshB (bq_ BK1609.out) k_ hk_), (Kd.freshB (bq_ BK1615.out) k_ hk_), (Kd.freshB (bq_ BK2101.out) k_ hk_)⟩)) (Zm hB_))
  replace HO1599 := Aside0.mk (Zz (rS_ HO1599.out) hb)
  replace HO1602 := Aside0.mk (Kd.R_below (rR_ HO1602.out) hb)
  replace HO1607 := Aside0.mk (Zz (rS_ HO1607.out) hb)
  replace HO1613 := Aside0.mk (Zz (rS_ HO1613.out) hb)
  replace HO2099 := Aside0.mk (Zz (rS_ HO2099.out) hb)
  replace HO2106 := Aside0.mk (Kd.R_below (rR_ HO2106.out) hb)
  replace BK1603 := Aside0.mk (Zg (bq_ BK1603.out) hb)
  replace BK1609 := Aside0.mk (Zg (bq_ BK1609.out) hb)
  replace BK1615 := Aside0.mk (Zg (bq_ BK1615.out) hb)
  replace BK2101 := Aside0.mk (Zg (bq_ BK2101.out) hb)
  replace HB := Aside0.mk (Zh hB_ hb)
  (try clear hb)
  (try clear hb2)
  (try clear hk)
  (try clear hi)
  (try clear ho0)
  obtain ⟨Ao64, co64, eo64⟩ := Kd.V_slice HO2112.out
  (first | subst eo64 | (injection eo64 with f1_ f2_ f3_; have f4_ := f1_.symm; have f5_ := f3_.symm; clear f1_ f2_ f3_; subst f4_; subst f5_))
  refine hK.out _ _ ⟨(Za BK1609.out 0).trans rfl, (Za BK1609.out 1).trans rfl, (Za BK1603.out 0).trans rfl, (Za BK1603.out 1).trans rfl, (Za BK2101.out 0).trans rfl, (Za BK2101.out 1).trans rfl⟩ (fun hHeld => ?_)
  clear hK K
  refine no_ 86 ?_
  refine on_ 39 89 (m_ 42 1099511627775) (fun K hK => ?_)
  refine goes_ Try.func30 (by kernel_rfl) rfl #[.slice Ao64 t2110.length co64, .int .i64 t1596] (by rfl) rfl rfl ar_ ?_
  with_reducible refine (laws_contains.calls k _ _ t2110 t1596 true _ ?side1 ?side2 A41.out).mono ?_
  (case side1 => exact sA_ (Kd.V_reads' HO2112.out).2.2)
  (case side2 => exact (Kd.V_reads' HO2112.out).2.1)
  rintro e w' ⟨rfl, ⟨nd, rfl⟩⟩
  refine ⟨_, rfl, ?_⟩
  refine hK.out _ _ ⟨(Za BK1609.out 0).trans rfl, (Za BK1609.out 1).trans rfl, (Za BK1603.out 0).trans rfl, (Za BK1603.out 1).trans rfl, (Za BK2101.out 0).trans rfl, (Za BK2101.out 1).trans rfl⟩ (fun hHeld => ?_)
  clear hK K
  refine no_ 89 ?_
  refine pu_ 40 90 (m_ 42 2199023255551) ?_
  refine pu_ 41 91 (m_ 42 4398046511103) ?_
  refine done_ (done_of HT_.out (by kernel_rfl)) ?_
  try go_wp2
  go_meet
  case rel => exact ⟨_, H', ⟨by first | omega | exact Nat.le_refl _⟩, ⟨hB_⟩⟩
 case rest =>
  clear HC8
  try clear c2
  try clear p2
  try clear c3
  try clear c4
  try clear c26
  try clear c27
  try clear c28
  try clear c29
  try clear c30
  try clear c31
  try clear c34
  try clear c35
  try clear c37
  try clear c39
  try clear c42
  try clear c45
  try clear c46
  obtain ⟨kq, HA, HJ7, HB⟩ := hcut
  cases kq with
  | zero => exact absurd HA.out (by simp [laws_FnDisputes.j0])
  | succ kj7 =>
   have H := HA.out
   clear HA
   simp only [laws_FnDisputes.j0] at H
   obtain ⟨⟨t2422, t2423, t2426⟩, A65, H⟩ := bd_ H
   try dsimp only at H
   obtain ⟨⟨t2430, t2431, t2434⟩, A66, H⟩ := bd_ H
   try dsimp only at H
   have HC67 := Aside0.mk H
   clear H
   go_upto_if 103 with (first | ((with_reducible refine Zl (f := 47) rfl ?_); refine ZI (some 94) rfl rfl Try.func47 (by kernel_rfl) rfl #[.slice A0 l0.length c0] rfl ar_ ?_; (with_reducible refine (spec_DrawRenamed.calls kj7 _ _ l0 t2422 t2423 t2426 _ ?side1 ?side2 A65.out).mono ?_); (case side1 => exact cb_ HR0.out); (case side2 => exact HC0.out); rintro e w68 ⟨v2424, v2427, rfl, ho0, ho1, hb⟩; refine ⟨_, rfl, ?_⟩; have HO2425 := Aside0.mk (Kd.S_lower ho0 (Zm hB_)); have HO2428 := Aside0.mk (Kd.R_lower ho1 (Zm hB_)); replace HB := Aside0.mk (Zh hB_ hb); (try clear hb); (try clear hk); (try clear ho0); (try clear ho1)) | ((with_reducible refine ZA (N := 11) rfl ?_); (try (refine gate_guard (by rfl) ?_; dsimp only)); refine ZC ?hg (N := 11) ?hd (cs := #[.int .i64 0, .slice none 0 0]) (t := 27) ?hr ?_; (case hd => rfl); (case hg => rfl); (case hr => first | (go_simp; done) | (go_simp; rfl)); intro gb2429 hg w69 hbox hb; replace HO2425 := Aside0.mk (Zz (rS_ HO2425.out) hb); replace HO2428 := Aside0.mk (Kd.R_below (rR_ HO2428.out) hb); have BK2429 := Aside0.mk (hbox); have GW2429 := Aside0.mk ((hz_ hg : w.heap.size ≤ gb2429)); have GE2429 := Aside0.mk ((hz_ hg : w.heap.size ≤ gb2429)); replace HB := Aside0.mk (Zh hB_ hb); clear hb hbox hg; obtain ⟨hcz70_0, hcz70_1, hfz70_0, hfz70_1⟩ := c2_ BK2429.out; obtain ⟨Ao71, co71, eo71⟩ := ZN HO2425.out; subst eo71; obtain ⟨Ao72, co72, eo72⟩ := Kd.R_slice HO2428.out; subst eo72) | ((with_reducible refine Zl (f := 48) rfl ?_); refine ZI (some 100) rfl rfl Try.func48 (by kernel_rfl) rfl #[.agg #[.int .i64 t2422, .slice Ao71 t2423.length co71], .slice Ao72 t2426.length co72] rfl ar_ ?_; (with_reducible refine (impl_Renamed.calls kj7 t2422 _ _ t2423 _ _ t2426 t2430 t2431 t2434 _ ?side1 ?side2 ?side3 ?side4 A66.out).mono ?_); (case side1 => refine (ZK (e := 31) (base := w.heap.size) (ok := fun k_ => some k_ ≠ (.slice Ao72 t2426.length co72 : Value).ownBlock) (n := t2423.length) (c := co71) ?_).2.2; exact (by (with_reducible repeat (first | apply Zs | apply Zr | apply Zp)); exact (Zt (Zq (p := ⟨gb2429, 1, none⟩) (Zq (p := ⟨gb2429, 0, none⟩) (Zv HO2425.out BK2429.out (by decide)) (fun _ hk => hk.2) (.int .i64 t2422)) (fun _ hk => hk.2) (.slice Ao71 t2423.length co71)) (fun _ h_ => h_.1)))); (case side2 => exact (ZK HO2425.out).2.1); (case side3 => refine (ZF (e := 3) (base := w.heap.size) (ok := fun k_ => True) (n := t2426.length) (c := co72) ?_).2.2; exact (by (with_reducible repeat (first | apply ZP | apply ZO | apply ZU)); exact (Zw (Kd.R_far (p := ⟨gb2429, 1, none⟩) (Kd.R_far (p := ⟨gb2429, 0, none⟩) (Kd.R_types HO2428.out BK2429.out (by decide)) (fun _ hk => hk.2) (.int .i64 t2422)) (fun _ hk => hk.2) (.slice Ao71 t2423.length co71)) (fun _ h_ => h_.1)))); (case side4 => exact (ZF HO2428.out).2.1); rintro e w73 ⟨v2432, rfl, ho0, hb⟩; refine ⟨_, rfl, ?_⟩; have HO2433 := Aside0.mk (Kd.S_lower (Kd.S_new' (Kd.S_new' ho0 (Kd.S_lt (by (with_reducible repeat (first | apply Zs | apply Zr | apply Zp)); exact (Zt (Zq (p := ⟨gb2429, 1, none⟩) (Zq (p := ⟨gb2429, 0, none⟩) (Zv HO2425.out BK2429.out (by decide)) (fun _ hk => hk.2) (.int .i64 t2422)) (fun _ hk => hk.2) (.slice Ao71 t2423.length co71)) (fun _ h_ => h_.1))))) (Kd.R_lt (by (with_reducible repeat (first | apply ZP | apply ZO | apply ZU)); exact (Zw (Kd.R_far (p := ⟨gb2429, 1, none⟩) (Kd.R_far (p := ⟨gb2429, 0, none⟩) (Kd.R_types HO2428.out BK2429.out (by decide)) (fun _ hk => hk.2) (.int .i64 t2422)) (fun _ hk => hk.2) (.slice Ao71 t2423.length co71)) (fun _ h_ => h_.1))))) (Zm hB_)); replace HO2425 := Aside0.mk (Kd.S_elder' (by (with_reducible repeat (first | apply Zs | apply Zr | apply Zp)); exact (Zt (Zq (p := ⟨gb2429, 1, none⟩) (Zq (p := ⟨gb2429, 0, none⟩) (Zv HO2425.out BK2429.out (by decide)) (fun _ hk => hk.2) (.int .i64 t2422)) (fun _ hk => hk.2) (.slice Ao71 t2423.length co71)) (fun _ h_ => h_.1))) (Kd.S_base ho0) hb); replace HO2428 := Aside0.mk (Kd.R_below (by (with_reducible repeat (first | apply ZP | apply ZO | apply ZU)); exact (Zw (Kd.R_far (p := ⟨gb2429, 1, none⟩) (Kd.R_far (p := ⟨gb2429, 0, none⟩) (Kd.R_types HO2428.out BK2429.out (by decide)) (fun _ hk => hk.2) (.int .i64 t2422)) (fun _ hk => hk.2) (.slice Ao71 t2423.length co71)) (fun _ h_ => h_.1))) hb); replace BK2429 := Aside0.mk (Zg (g := gb2429) (o := .cells #[.int .i64 t2422, .slice Ao71 t2423.length co71] 27 (0, 0)) (by (with_reducible repeat (first | refine Ze ?_ _ | refine Zf ?_ | refine Zd ?_ _)); refine ZB (cs := #[.int .i64 t2422, .slice none 0 0]) ?_ 1 _ rfl; (with_reducible repeat (first | refine Ze ?_ _ | refine Zf ?_ | refine Zd ?_ _)); refine ZB (cs := #[.int .i64 0, .slice none 0 0]) ?_ 0 _ rfl; (with_reducible repeat (first | refine Ze ?_ _ | refine Zf ?_ | refine Zd ?_ _)); exact BK2429.out) hb); replace HB := Aside0.mk (Zh hB_ hb); (try clear hb); (try clear hk); (try clear ho0)) | ((with_reducible refine ZA (N := 13) rfl ?_); (try (refine gate_guard (by rfl) ?_; dsimp only)); refine ZC ?hg (N := 13) ?hd (cs := #[.int .i64 0, .slice none 0 0]) (t := 27) ?hr ?_; (case hd => rfl); (case hg => rfl); (case hr => first | (go_simp; done) | (go_simp; rfl)); intro gb2435 hg w74 hbox hb; replace HO2425 := Aside0.mk (Zz (rS_ HO2425.out) hb); replace HO2428 := Aside0.mk (Kd.R_below (rR_ HO2428.out) hb); replace HO2433 := Aside0.mk (Zz (rS_ HO2433.out) hb); have BK2435 := Aside0.mk (hbox); have GW2435 := Aside0.mk ((hz_ hg : w.heap.size ≤ gb2435)); have GE2435 := Aside0.mk ((hz_ hg : w.heap.size ≤ gb2435)); replace HB := Aside0.mk (Zh hB_ hb); have NB2429_2435 := Aside0.mk ((by rw [hg]; exact Nat.ne_of_lt (ZS (bq_ BK2429.out)) : gb2429 ≠ gb2435)); have NB2435_2429 := Aside0.mk ((by rw [hg]; exact Nat.ne_of_gt (ZS (bq_ BK2429.out)) : gb2435 ≠ gb2429)); replace BK2429 := Aside0.mk (Zg (bq_ BK2429.out) hb); clear hb hbox hg; have hnb75 := NB2435_2429.out; have hnc75 := NB2429_2435.out; obtain ⟨hcz76_0, hcz76_1, hfz76_0, hfz76_1⟩ := c2_ BK2435.out; obtain ⟨Ao77, co77, eo77⟩ := ZN HO2433.out; subst eo77))
   (try simp only [Act.put, ZW, List.set_cons_zero, List.set_cons_succ])
   go_cut [] (fun wc => ∃ (kq : Nat), Aside0 (laws_FnDisputes.j2 kq l0 = some r) ∧ Aside0 (kq ≤ kj7) ∧ Aside0 (Below w.heap.size w wc))
   case first =>
    have H := HC67.out
    clear HC67
    by_cases c78 : t2434 = true
    rotate_left
    ·replace c78 := Bool.eq_false_iff.mpr c78
     subst c78
     rw [if_neg (show ¬ (false = true) by decide)] at H
     try dsimp only at H
     have H' := Aside0.mk H
     clear H
     go_wp2
     go_meet
     case rel => exact ⟨_, H', ⟨by have := HJ7.out; first | omega | exact Nat.le_refl _⟩, ⟨hB_⟩⟩
    subst c78
    rw [if_pos rfl] at H
    try dsimp only at H
    obtain ⟨t2436, A79, H⟩ := bd_ H
    try dsimp only at H
    obtain ⟨t2437, A80, H⟩ := bd_ H
    try dsimp only at H
    by_cases c81 : t2436 = t2437
    rotate_left
    ·rw [if_neg c81] at H
     exact absurd H (by simp)
    rw [if_pos c81] at H
    have c81b0 : (t2436 == t2437) = true := beq_iff_eq.mpr c81
    have c81b1 : (t2436 != t2437) = false := bne_eq_false_iff_eq.mpr c81
    clear c81
    (first | rw [c81b0] | (simp only [i64_w, i32_w]; rw [c81b0]) | skip)
    by_cases c82 : (t2423.length : Int) = (t2431.length : Int)
    rotate_left
    ·rw [if_neg c82] at H
     exact absurd H (by simp)
    rw [if_pos c82] at H
    have c82b0 : ((t2423.length : Int) == (t2431.length : Int)) = true := beq_iff_eq.mpr c82
    have c82b1 : ((t2423.length : Int) != (t2431.length : Int)) = false := bne_eq_false_iff_eq.mpr c82
    have c82b2 : (t2423.length == t2431.length) = true := by first | simpa using c82 | (simp at c82 ⊢; omega)
    clear c82
    obtain ⟨t2492, A83, H⟩ := bd_ H
    try dsimp only at H
    obtain ⟨t2495, A84, H⟩ := bd_ H
    try dsimp only at H
    have H' := Aside0.mk H
    clear H
    try go_wp2
    have n0_ : Aside0 (Kd.S (Kd.slice 3 (Kd.int .i64)) 31 ((w74.setCell ⟨gb2435, 0, none⟩ (.int .i64 t2430)).setCell ⟨gb2435, 1, none⟩ (.slice Ao77 t2431.length co77)) w.heap.size (fun k_ => some k_ ≠ (.slice Ao72 t2426.length co72 : Value).ownBlock ∧ some k_ ≠ (.slice Ao77 t2431.length co77 : Value).ownBlock) (.slice Ao71 t2423.length co71) t2423) := ⟨by (with_reducible repeat (first | apply Zs | apply Zr | apply Zp)); exact Zt (Zq (p := ⟨gb2435, 1, none⟩) (Zq (p := ⟨gb2435, 0, none⟩) (Zv HO2425.out BK2435.out (by decide)) (fun _ hk => hk.2) (.int .i64 t2430)) (fun _ hk => hk.2) (.slice Ao77 t2431.length co77)) (fun _ hk => ⟨hk.1.1, hk.1.2⟩)⟩
    have n1_ : Aside0 (Kd.R (Kd.int .i64) 3 ((w74.setCell ⟨gb2435, 0, none⟩ (.int .i64 t2430)).setCell ⟨gb2435, 1, none⟩ (.slice Ao77 t2431.length co77)) w.heap.size (fun _ => True) (.slice Ao72 t2426.length co72) t2426) := ⟨by (with_reducible repeat (first | apply ZP | apply ZO | apply ZU)); exact Zw (Kd.R_far (p := ⟨gb2435, 1, none⟩) (Kd.R_far (p := ⟨gb2435, 0, none⟩) (Kd.R_types HO2428.out BK2435.out (by decide)) (fun _ hk => hk.2) (.int .i64 t2430)) (fun _ hk => hk.2) (.slice Ao77 t2431.length co77)) (fun _ hk => trivial)⟩
    have n2_ : Aside0 (Kd.S (Kd.slice 3 (Kd.int .i64)) 31 ((w74.setCell ⟨gb2435, 0, none⟩ (.int .i64 t2430)).setCell ⟨gb2435, 1, none⟩ (.slice Ao77 t2431.length co77)) w.heap.size (fun k_ => some k_ ≠ (.slice Ao71 t2423.length co71 : Value).ownBlock ∧ some k_ ≠ (.slice Ao72 t2426.length co72 : Value).ownBlock) (.slice Ao77 t2431.length co77) t2431) := ⟨by (with_reducible repeat (first | apply Zs | apply Zr | apply Zp)); exact Zt (Zq (p := ⟨gb2435, 1, none⟩) (Zq (p := ⟨gb2435, 0, none⟩) (Zv HO2433.out BK2435.out (by decide)) (fun _ hk => hk.2) (.int .i64 t2430)) (fun _ hk => hk.2) (.slice Ao77 t2431.length co77)) (fun _ hk => ⟨hk.1.1.2, hk.1.2⟩)⟩
    have n3_ : Aside0 (((w74.setCell ⟨gb2435, 0, none⟩ (.int .i64 t2430)).setCell ⟨gb2435, 1, none⟩ (.slice Ao77 t2431.length co77)).heap[gb2429]? = some (.cells #[.int .i64 t2422, .slice Ao71 t2423.length co71] 27 (0, 0))) := ⟨by (with_reducible repeat (first | refine Ze ?_ _ | refine Zf ?_ | refine Zd ?_ _)); refine ZG ?_ NB2429_2435.out _; (with_reducible repeat (first | refine Ze ?_ _ | refine Zf ?_ | refine Zd ?_ _)); refine ZG ?_ NB2429_2435.out _; (with_reducible repeat (first | refine Ze ?_ _ | refine Zf ?_ | refine Zd ?_ _)); exact BK2429.out⟩
    have n4_ : Aside0 (((w74.setCell ⟨gb2435, 0, none⟩ (.int .i64 t2430)).setCell ⟨gb2435, 1, none⟩ (.slice Ao77 t2431.length co77)).heap[gb2435]? = some (.cells #[.int .i64 t2430, .slice Ao77 t2431.length co77] 27 (0, 0))) := ⟨by (with_reducible repeat (first | refine Ze ?_ _ | refine Zf ?_ | refine Zd ?_ _)); refine ZB (cs := #[.int .i64 t2430, .slice none 0 0]) ?_ 1 _ rfl; (with_reducible repeat (first | refine Ze ?_ _ | refine Zf ?_ | refine Zd ?_ _)); refine ZB (cs := #[.int .i64 0, .slice none 0 0]) ?_ 0 _ rfl; (with_reducible repeat (first | refine Ze ?_ _ | refine Zf ?_ | refine Zd ?_ _)); exact BK2435.out⟩
    have n5_ : Aside0 (Below w.heap.size w ((w74.setCell ⟨gb2435, 0, none⟩ (.int .i64 t2430)).setCell ⟨gb2435, 1, none⟩ (.slice Ao77 t2431.length co77))) := ⟨hB_⟩
    (try clear HO2425)
    (try clear HO2428)
    (try clear HO2433)
    (try clear BK2429)
    (try clear BK2435)
    (try clear HB)
    generalize ((w74.setCell ⟨gb2435, 0, none⟩ (.int .i64 t2430)).setCell ⟨gb2435, 1, none⟩ (.slice Ao77 t2431.length co77)) = w85 at n0_ n1_ n2_ n3_ n4_ n5_ ⊢
    have HO2425 := n0_
    have HO2428 := n1_
    have HO2433 := n2_
    have BK2429 := n3_
    have BK2435 := n4_
    have HB := n5_
    clear n0_ n1_ n2_ n3_ n4_ n5_
    replace HO2425 := Aside0.mk (Zp HO2425.out)
    replace HO2428 := Aside0.mk (ZU HO2428.out)
    replace HO2433 := Aside0.mk (Zp HO2433.out)
    replace BK2429 := Aside0.mk (Zf BK2429.out)
    replace BK2435 := Aside0.mk (Zf BK2435.out)
    replace HB := Aside0.mk (Zj HB.out)
    refine start_ (n := 14) (S := fun w' => w'.cell? ⟨gb2429, 0, none⟩ = some (.int .i64 t2422) ∧ w'.cell? ⟨gb2429, 1, none⟩ = some (.slice Ao71 t2423.length co71) ∧ w'.cell? ⟨gb2435, 0, none⟩ = some (.int .i64 t2430) ∧ w'.cell? ⟨gb2435, 1, none⟩ = some (.slice Ao77 t2431.length co77)) (ds := []) (m_ 14 0) (by kernel_rfl) rfl rfl ⟨(Za BK2429.out 0).trans rfl, (Za BK2429.out 1).trans rfl, (Za BK2435.out 0).trans rfl, (Za BK2435.out 1).trans rfl⟩ (fun hHeld => ?_); refine with_tabW laws_FnDisputes.tab15 laws_FnDisputes.bits15 (fun HT_ HW_ => ?_)
    generalize w85.drew = w86 at HO2425 HO2428 HO2433 BK2429 BK2435 HB hHeld ⊢
    refine tk4_ 0 104 (m_ 14 1) hHeld ?_
    refine tk4_ 2 106 (m_ 14 5) hHeld ?_
    refine on_ 1 105 (m_ 14 7) (fun K hK => ?_)
    refine goes_ Try.func49 (by kernel_rfl) rfl #[.agg #[.int .i64 t2422, .slice Ao71 t2423.length co71]] (by rfl) rfl rfl ar_ ?_
    with_reducible refine (impl_CountLoops.calls kj7 t2422 _ _ t2423 t2436 _ ?side1 ?side2 A79.out).mono ?_
    (case side1 => exact sA_ (ZK HO2425.out).2.2)
    (case side2 => exact (ZK HO2425.out).2.1)
    rintro e w87 ⟨rfl, hb⟩
    refine ⟨_, rfl, ?_⟩
    replace HO2425 := Aside0.mk (Zz (rS_ HO2425.out) hb)
    replace HO2428 := Aside0.mk (Kd.R_below (rR_ HO2428.out) hb)
    replace HO2433 := Aside0.mk (Zz (rS_ HO2433.out) hb)
    replace BK2429 := Aside0.mk (Zg (bq_ BK2429.out) hb)
    replace BK2435 := Aside0.mk (Zg (bq_ BK2435.out) hb)
    replace HB := Aside0.mk (Zh hB_ hb)
    (try clear hb)
    (try clear hb2)
    (try clear hk)
    (try clear hi)
    refine hK.out _ _ ⟨(Za BK2429.out 0).trans rfl, (Za BK2429.out 1).trans rfl, (Za BK2435.out 0).trans rfl, (Za BK2435.out 1).trans rfl⟩ (fun hHeld => ?_)
    clear hK K
    refine no_ 105 ?_
    refine on_ 3 107 (m_ 14 15) (fun K hK => ?_)
    refine goes_ Try.func49 (by kernel_rfl) rfl #[.agg #[.int .i64 t2430, .slice Ao77 t2431.length co77]] (by rfl) rfl rfl ar_ ?_
    with_reducible refine (impl_CountLoops.calls kj7 t2430 _ _ t2431 t2437 _ ?side1 ?side2 A80.out).mono ?_
    (case side1 => exact sA_ (ZK HO2433.out).2.2)
    (case side2 => exact (ZK HO2433.out).2.1)
    rintro e w88 ⟨rfl, hb⟩
    refine ⟨_, rfl, ?_⟩
    replace HO2425 := Aside0.mk (Zz (rS_ HO2425.out) hb)
    replace HO2428 := Aside0.mk (Kd.R_below (rR_ HO2428.out) hb)
    replace HO2433 := Aside0.mk (Zz (rS_ HO2433.out) hb)
    replace BK2429 := Aside0.mk (Zg (bq_ BK2429.out) hb)
    replace BK2435 := Aside0.mk (Zg (bq_ BK2435.out) hb)
    replace HB := Aside0.mk (Zh hB_ hb)
    (try clear hb)
    (try clear hb2)
    (try clear hk)
    (try clear hi)
    refine hK.out _ _ ⟨(Za BK2429.out 0).trans rfl, (Za BK2429.out 1).trans rfl, (Za BK2435.out 0).trans rfl, (Za BK2435.out 1).trans rfl⟩ (fun hHeld => ?_)
    clear hK K
    refine no_ 107 ?_
    refine pu_ 4 108 (m_ 14 31) ?_
    refine pu_ 5 109 (m_ 14 63) ?_
    refine pu_ 6 110 (m_ 14 127) ?_
    refine pu_ 9 113 (m_ 14 639) ?_
    refine tk4_ 7 111 (m_ 14 767) hHeld ?_
    refine pu_ 8 112 (m_ 14 1023) ?_
    refine tk4_ 10 114 (m_ 14 2047) hHeld ?_
    refine pu_ 11 115 (m_ 14 4095) ?_
    refine pu_ 12 116 (m_ 14 8191) ?_
    refine pu_ 13 117 (m_ 14 16383) ?_
    refine done_ (done_of HT_.out (by kernel_rfl)) ?_
    have hnb89 := NB2429_2435.out
    have hnc89 := NB2435_2429.out
    obtain ⟨hcz90_0, hcz90_1, hfz90_0, hfz90_1⟩ := c2_ BK2429.out
    try go_wp2_with (first | ((with_reducible refine Zl (f := 27) rfl ?_); refine ZI (some 119) rfl rfl Try.func27 (by kernel_rfl) rfl #[.agg #[.int .i64 t2422, .slice Ao71 t2423.length co71]] rfl ar_ ?_; (with_reducible refine (impl_Grounded.calls kj7 t2422 _ _ t2423 t2492 _ ?side1 ?side2 A83.out).mono ?_); (case side1 => exact sA_ (ZK HO2425.out).2.2); (case side2 => exact (ZK HO2425.out).2.1); rintro e w91 ⟨v2493, rfl, ho0, hb⟩; refine ⟨_, rfl, ?_⟩; have HO2494 := Aside0.mk (Kd.V_lower (Kd.V_mono (ok' := fun k_ => some k_ ≠ (.slice Ao71 t2423.length co71 : Value).ownBlock ∧ some k_ ≠ (.slice Ao72 t2426.length co72 : Value).ownBlock ∧ some k_ ≠ (.slice Ao77 t2431.length co77 : Value).ownBlock ∧ k_ ≠ gb2429 ∧ k_ ≠ gb2435) ho0 (fun k_ hk_ => ⟨(Kd.fresh' (Kd.S_lt (rS_ HO2425.out)) k_ hk_), (Kd.fresh' (Kd.R_lt (rR_ HO2428.out)) k_ hk_), (Kd.fresh' (Kd.S_lt (rS_ HO2433.out)) k_ hk_), (Kd.freshB (bq_ BK2429.out) k_ hk_), (Kd.freshB (bq_ BK2435.out) k_ hk_)⟩)) (Zm hB_)); replace HO2425 := Aside0.mk (Zz (rS_ HO2425.out) hb); replace HO2428 := Aside0.mk (Kd.R_below (rR_ HO2428.out) hb); replace HO2433 := Aside0.mk (Zz (rS_ HO2433.out) hb); replace BK2429 := Aside0.mk (Zg (bq_ BK2429.out) hb); replace BK2435 := Aside0.mk (Zg (bq_ BK2435.out) hb); replace HB := Aside0.mk (Zh hB_ hb); (try clear hb); (try clear ho0); obtain ⟨hcz92_0, hcz92_1, hfz92_0, hfz92_1⟩ := c2_ BK2435.out) | ((with_reducible refine Zl (f := 27) rfl ?_); refine ZI (some 121) rfl rfl Try.func27 (by kernel_rfl) rfl #[.agg #[.int .i64 t2430, .slice Ao77 t2431.length co77]] rfl ar_ ?_; (with_reducible refine (impl_Grounded.calls kj7 t2430 _ _ t2431 t2495 _ ?side1 ?side2 A84.out).mono ?_); (case side1 => exact sA_ (ZK HO2433.out).2.2); (case side2 => exact (ZK HO2433.out).2.1); rintro e w93 ⟨v2496, rfl, ho0, hb⟩; refine ⟨_, rfl, ?_⟩; replace HO2494 := Aside0.mk (Kd.V_below (rV_ HO2494.out) hb); have HO2497 := Aside0.mk (Kd.V_lower (Kd.V_mono (ok' := fun k_ => some k_ ≠ (.slice Ao71 t2423.length co71 : Value).ownBlock ∧ some k_ ≠ (.slice Ao72 t2426.length co72 : Value).ownBlock ∧ some k_ ≠ (.slice Ao77 t2431.length co77 : Value).ownBlock ∧ k_ ≠ gb2429 ∧ k_ ≠ gb2435) ho0 (fun k_ hk_ => ⟨(Kd.fresh' (Kd.S_lt (rS_ HO2425.out)) k_ hk_), (Kd.fresh' (Kd.R_lt (rR_ HO2428.out)) k_ hk_), (Kd.fresh' (Kd.S_lt (rS_ HO2433.out)) k_ hk_), (Kd.freshB (bq_ BK2429.out) k_ hk_), (Kd.freshB (bq_ BK2435.out) k_ hk_)⟩)) (Zm hB_)); replace HO2425 := Aside0.mk (Zz (rS_ HO2425.out) hb); replace HO2428 := Aside0.mk (Kd.R_below (rR_ HO2428.out) hb); replace HO2433 := Aside0.mk (Zz (rS_ HO2433.out) hb); replace BK2429 := Aside0.mk (Zg (bq_ BK2429.out) hb); replace BK2435 := Aside0.mk (Zg (bq_ BK2435.out) hb); replace HB := Aside0.mk (Zh hB_ hb); (try clear hb); (try clear ho0)))
    go_loopg [17] kj7 (fun kq v17 w' => ∃ (x17_2 : Int), v17 = .int .i64 x17_2 ∧ Aside0 (laws_FnDisputes.l0 kq l0 t2426 t2492 t2495 x17_2 t2422 t2423 t2430 t2431 = some r) ∧ Aside0 (kq ≤ kj7) ∧ Aside0 (Kd.R (Kd.int .i64) 3 w' w.heap.size (fun _ => True) (.slice Ao72 t2426.length co72) t2426) ∧ Aside0 (Kd.V (Kd.int .i64) 3 w' w.heap.size (fun k_ => some k_ ≠ ((.slice Ao72 t2426.length co72) : Value).ownBlock ∧ some k_ ≠ ((.slice Ao71 t2423.length co71) : Value).ownBlock ∧ some k_ ≠ ((.slice Ao77 t2431.length co77) : Value).ownBlock ∧ k_ ≠ gb2429 ∧ k_ ≠ gb2435) v2493 t2492) ∧ Aside0 (Kd.V (Kd.int .i64) 3 w' w.heap.size (fun k_ => some k_ ≠ ((.slice Ao72 t2426.length co72) : Value).ownBlock ∧ some k_ ≠ ((.slice Ao71 t2423.length co71) : Value).ownBlock ∧ some k_ ≠ ((.slice Ao77 t2431.length co77) : Value).ownBlock ∧ k_ ≠ gb2429 ∧ k_ ≠ gb2435) v2496 t2495) ∧ Aside0 (Kd.S (Kd.slice 3 (Kd.int .i64)) 31 w' w.heap.size (fun k_ => some k_ ≠ ((.slice Ao72 t2426.length co72) : Value).ownBlock ∧ some k_ ≠ ((.slice Ao77 t2431.length co77) : Value).ownBlock) (.slice Ao71 t2423.length co71) t2423) ∧ Aside0 (Kd.S (Kd.slice 3 (Kd.int .i64)) 31 w' w.heap.size (fun k_ => some k_ ≠ ((.slice Ao72 t2426.length co72) : Value).ownBlock ∧ some k_ ≠ ((.slice Ao71 t2423.length co71) : Value).ownBlock) (.slice Ao77 t2431.length co77) t2431) ∧ Aside0 (w'.heap[gb2429]? = some (.cells #[.int .i64 t2422, (.slice Ao71 t2423.length co71)] 27 (0, 0))) ∧ Aside0 (w'.heap[gb2435]? = some (.cells #[.int .i64 t2430, (.slice Ao77 t2431.length co77)] 27 (0, 0))) ∧ Aside0 (Below w.heap.size w w'))
    case atStart => exact ⟨(0), sm_, H', ⟨Nat.le_refl _⟩, ⟨rR_ HO2428.out⟩, ⟨by (with_reducible repeat (first | apply Kd.V_alloc | apply Kd.V_drewN | apply Kd.V_drew)); exact Kd.V_mono HO2494.out (fun _ hk => ⟨hk.2.1, ⟨hk.1, ⟨hk.2.2.1, ⟨hk.2.2.2.1, hk.2.2.2.2⟩⟩⟩⟩)⟩, ⟨by (with_reducible repeat (first | apply Kd.V_alloc | apply Kd.V_drewN | apply Kd.V_drew)); exact Kd.V_mono HO2497.out (fun _ hk => ⟨hk.2.1, ⟨hk.1, ⟨hk.2.2.1, ⟨hk.2.2.2.1, hk.2.2.2.2⟩⟩⟩⟩)⟩, ⟨rS_ HO2425.out⟩, ⟨by (with_reducible repeat (first | apply Zs | apply Zr | apply Zp)); exact Zt HO2433.out (fun _ hk => ⟨hk.2, hk.1⟩)⟩, ⟨bk_ BK2429.out⟩, ⟨bk_ BK2435.out⟩, ⟨hB_⟩⟩
    case round =>
     clear H'
     try clear c2
     try clear p2
     try clear c3
     try clear c4
     try clear c7
     try clear c8
     try clear c26
     try clear c27
     try clear c28
     try clear c29
     try clear c30
     try clear c31
     try clear c34
     try clear c35
     try clear c37
     try clear c39
     try clear c42
     try clear c45
     try clear c46
     try clear c47
     try clear c48
     try clear c49
     try clear c75
     try clear c78
     try clear c81
     try clear c81b0
     try clear c81b1
     try clear c82
     try clear c82b0
     try clear c82b1
     try clear c82b2
     try clear c89
     try clear hcz70_0
     try clear hcz70_1
     try clear hcz76_0
     try clear hcz76_1
     try clear hcz90_0
     try clear hcz90_1
     try clear hcz92_0
     try clear hcz92_1
     try clear hfz70_0
     try clear hfz70_1
     try clear hfz76_0
     try clear hfz76_1
     try clear hfz90_0
     try clear hfz90_1
     try clear hfz92_0
     try clear hfz92_1
     try clear p2
     obtain ⟨x17_2, rfl, HA, HK2, HO_12, HO_15, HO_16, HO_2430001, HO_2436001, BK2429, BK2435, HB⟩ := hrel
     cases gk with
     | zero => exact absurd HA.out (by simp [laws_FnDisputes.l0])
     | succ k2 =>
      have H := HA.out
      clear HA
      simp only [laws_FnDisputes.l0] at H
      by_cases c94 : x17_2 < (t2426.length : Int)
      rotate_left
      ·rw [if_neg c94] at H
       have c94b0 : decide (x17_2 < (t2426.length : Int)) = false := decide_eq_false c94
       clear c94
       have H' := Aside0.mk H
       clear H
       go_wp2
       go_meet
       case rel => exact ⟨_, H', ⟨by have := HJ7.out; have := HK2.out; first | omega | exact Nat.le_refl _⟩, ⟨hB_⟩⟩
      rw [if_pos c94] at H
      have c94b0 : decide (x17_2 < (t2426.length : Int)) = true := decide_eq_true c94
      clear c94
      obtain ⟨t2504, A95, H⟩ := bd_ H
      try dsimp only at H
      by_cases c96 : 0 ≤ x17_2
      rotate_left
      ·rw [if_neg c96] at H
       exact absurd H (by simp)
      rw [if_pos c96] at H
      have c96b0 : decide (0 ≤ x17_2) = true := decide_eq_true c96
      clear c96
      obtain ⟨t2506, A97, H⟩ := bd_ H
      try dsimp only at H
      by_cases c98 : (t2504 != t2506) = true
      ·rw [if_pos c98] at H
       exact absurd H (by simp)
      rw [if_neg c98] at H
      have c98b0 : (t2504 != t2506) = false := by simpa using c98
      (try (have c98b1 : decide (t2504 = t2506) = true := by simpa using c98))
      (try (have c98b2 : (t2504 == t2506) = true := by simpa using c98))
      clear c98
      obtain ⟨t2507, A99, H⟩ := bd_ H
      try dsimp only at H
      obtain ⟨t2509, A100, H⟩ := bd_ H
      try dsimp only at H
      by_cases c101 : t2507 = t2509
      rotate_left
      ·rw [if_neg c101] at H
       exact absurd H (by simp)
      rw [if_pos c101] at H
      have c101b0 : (t2507 == t2509) = true := beq_iff_eq.mpr c101
      have c101b1 : (t2507 != t2509) = false := bne_eq_false_iff_eq.mpr c101
      clear c101
      have H' := Aside0.mk H
      clear H
      try go_wp2
      replace HO_12 := Aside0.mk (ZU HO_12.out)
      replace HO_15 := Aside0.mk (Kd.V_drew HO_15.out)
      replace HO_16 := Aside0.mk (Kd.V_drew HO_16.out)
      replace HO_2430001 := Aside0.mk (Zp HO_2430001.out)
      replace HO_2436001 := Aside0.mk (Zp HO_2436001.out)
      replace BK2429 := Aside0.mk (Zf BK2429.out)
      replace BK2435 := Aside0.mk (Zf BK2435.out)
      replace HB := Aside0.mk (Zj HB.out)
      have p2505 : 0 ≤ (x17_2 : Int) := of_decide_eq_true as_
      have q2505 : x17_2 < (t2426.length : Int) := of_decide_eq_true as_
      obtain ⟨ad2505, e2505, hx2505_0⟩ := Zx (ZF HO_12.out).2.2 x17_2 p2505 q2505
      cases e2505
      replace p2505 := eq_true p2505
      replace q2505 := eq_true q2505
      obtain ⟨Ao103, co103, eo103⟩ := Kd.V_slice HO_15.out
      (first | subst eo103 | (injection eo103 with f1_ f2_ f3_; have f4_ := f1_.symm; have f5_ := f3_.symm; clear f1_ f2_ f3_; subst f4_; subst f5_))
      have p2508 : 0 ≤ (x17_2 : Int) := of_decide_eq_true as_
      have q2508 : x17_2 < (t2426.length : Int) := of_decide_eq_true as_
      obtain ⟨ad2508, e2508, hx2508_0⟩ := Zx (ZF HO_12.out).2.2 x17_2 p2508 q2508
      obtain rfl : ad2505 = ad2508 := (by injection e2508)
      replace p2508 := eq_true p2508
      replace q2508 := eq_true q2508
      refine start_ (n := 22) (S := fun w' => w'.cell? ⟨gb2429, 0, none⟩ = some (.int .i64 t2422) ∧ w'.cell? ⟨gb2429, 1, none⟩ = some (.slice Ao71 t2423.length co71) ∧ w'.cell? ⟨gb2435, 0, none⟩ = some (.int .i64 t2430) ∧ w'.cell? ⟨gb2435, 1, none⟩ = some (.slice Ao77 t2431.length co77) ∧ w'.cell? (ad2505.add (x17_2).toNat) = some (.int .i64 (rd t2426 x17_2)) ∧ w'.cell? (ad2505.add (x17_2).toNat) = some (.int .i64 (rd t2426 x17_2))) (ds := []) (m_ 22 0) (by kernel_rfl) rfl rfl ⟨(Za BK2429.out 0).trans rfl, (Za BK2429.out 1).trans rfl, (Za BK2435.out 0).trans rfl, (Za BK2435.out 1).trans rfl, hx2505_0, hx2508_0⟩ (fun hHeld => ?_); refine with_tabW laws_FnDisputes.tab22 laws_FnDisputes.bits22 (fun HT_ HW_ => ?_)
      generalize wr.drew = w102 at HO_12 HO_15 HO_16 HO_2430001 HO_2436001 BK2429 BK2435 HB hx2505_0 hx2508_0 hHeld ⊢
      refine pu_ 0 128 (m_ 22 1) ?_
      refine pu_ 1 129 (m_ 22 3) ?_
      refine pu_ 3 131 (m_ 22 11) ?_
      refine pu_ 4 132 (m_ 22 27) ?_
      refine pu_ 5 133 (m_ 22 59) ?_
      refine pu_ 6 134 (m_ 22 123) ?_
      refine tk6_ 7 135 (m_ 22 251) hHeld ?_
      refine on_ 2 130 (m_ 22 255) (fun K hK => ?_)
      refine goes_ Try.func30 (by kernel_rfl) rfl #[.slice Ao103 t2492.length co103, .int .i64 x17_2] (by rfl) rfl rfl ar_ ?_
      with_reducible refine (laws_contains.calls k2 _ _ t2492 x17_2 t2504 _ ?side1 ?side2 A95.out).mono ?_
      (case side1 => exact sA_ (Kd.V_reads' HO_15.out).2.2)
      (case side2 => exact (Kd.V_reads' HO_15.out).2.1)
      rintro e w' ⟨rfl, ⟨nd, rfl⟩⟩
      refine ⟨_, rfl, ?_⟩
      obtain ⟨Ao104, co104, eo104⟩ := Kd.V_slice HO_16.out
      (first | subst eo104 | (injection eo104 with f1_ f2_ f3_; have f4_ := f1_.symm; have f5_ := f3_.symm; clear f1_ f2_ f3_; subst f4_; subst f5_))
      refine hK.out _ _ ⟨(Za BK2429.out 0).trans rfl, (Za BK2429.out 1).trans rfl, (Za BK2435.out 0).trans rfl, (Za BK2435.out 1).trans rfl, hHeld.2.2.2.2.1, hHeld.2.2.2.2.2⟩ (fun hHeld => ?_)
      clear hK K
      refine no_ 130 ?_
      refine on_ 8 136 (m_ 22 511) (fun K hK => ?_)
      refine goes_ Try.func30 (by kernel_rfl) rfl #[.slice Ao104 t2495.length co104, .int .i64 (rd t2426 x17_2)] (by rfl) rfl rfl ar_ ?_
      with_reducible refine (laws_contains.calls k2 _ _ t2495 (rd t2426 x17_2) t2506 _ ?side1 ?side2 A97.out).mono ?_
      (case side1 => exact sA_ (Kd.V_reads' HO_16.out).2.2)
      (case side2 => exact (Kd.V_reads' HO_16.out).2.1)
      rintro e w' ⟨rfl, ⟨nd, rfl⟩⟩
      refine ⟨_, rfl, ?_⟩
      refine hK.out _ _ ⟨(Za BK2429.out 0).trans rfl, (Za BK2429.out 1).trans rfl, (Za BK2435.out 0).trans rfl, (Za BK2435.out 1).trans rfl, hHeld.2.2.2.2.1, hHeld.2.2.2.2.2⟩ (fun hHeld => ?_)
      clear hK K
      refine no_ 136 ?_
      refine pu_ 9 137 (m_ 22 1023) ?_
      refine pu_ 10 138 (m_ 22 2047) ?_
      refine pu_ 12 140 (m_ 22 6143) ?_
      refine pu_ 15 143 (m_ 22 38911) ?_
      refine pu_ 16 144 (m_ 22 104447) ?_
      refine pu_ 17 145 (m_ 22 235519) ?_
      refine tk6_ 11 139 (m_ 22 237567) hHeld ?_
      refine tk6_ 14 142 (m_ 22 253951) hHeld ?_
      refine tk6_ 18 146 (m_ 22 516095) hHeld ?_
      refine on_ 13 141 (m_ 22 524287) (fun K hK => ?_)
      refine goes_ Try.func50 (by kernel_rfl) rfl #[.agg #[.int .i64 t2422, .slice Ao71 t2423.length co71], .int .i64 x17_2] (by rfl) rfl rfl ar_ ?_
      with_reducible refine (impl_RoundOf.calls k2 t2422 _ _ t2423 x17_2 t2507 _ ?side1 ?side2 A99.out).mono ?_
      (case side1 => exact sA_ (ZK HO_2430001.out).2.2)
      (case side2 => exact (ZK HO_2430001.out).2.1)
      rintro e w105 ⟨rfl, hb⟩
      have HS4_ := (hb.cell (World.block_lt_of_cell? _ _ (hHeld.2.2.2.2.1))).trans (hHeld.2.2.2.2.1)
      have HS5_ := (hb.cell (World.block_lt_of_cell? _ _ (hHeld.2.2.2.2.2))).trans (hHeld.2.2.2.2.2)
      refine ⟨_, rfl, ?_⟩
      replace HO_12 := Aside0.mk (Kd.R_below (rR_ HO_12.out) hb)
      replace HO_15 := Aside0.mk (Kd.V_below (rV_ HO_15.out) hb)
      replace HO_16 := Aside0.mk (Kd.V_below (rV_ HO_16.out) hb)
      replace HO_2430001 := Aside0.mk (Zz (rS_ HO_2430001.out) hb)
      replace HO_2436001 := Aside0.mk (Zz (rS_ HO_2436001.out) hb)
      replace BK2429 := Aside0.mk (Zg (bq_ BK2429.out) hb)
      replace BK2435 := Aside0.mk (Zg (bq_ BK2435.out) hb)
      replace HB := Aside0.mk (Zh hB_ hb)
      (try clear hb)
      (try clear hb2)
      (try clear hk)
      (try clear hi)
      refine hK.out _ _ ⟨(Za BK2429.out 0).trans rfl, (Za BK2429.out 1).trans rfl, (Za BK2435.out 0).trans rfl, (Za BK2435.out 1).trans rfl, HS4_, HS5_⟩ (fun hHeld => ?_)
      clear hK K
      refine no_ 141 ?_
      refine on_ 19 147 (m_ 22 1048575) (fun K hK => ?_)
      refine goes_ Try.func50 (by kernel_rfl) rfl #[.agg #[.int .i64 t2430, .slice Ao77 t2431.length co77], .int .i64 (rd t2426 x17_2)] (by rfl) rfl rfl ar_ ?_
      with_reducible refine (impl_RoundOf.calls k2 t2430 _ _ t2431 (rd t2426 x17_2) t2509 _ ?side1 ?side2 A100.out).mono ?_
      (case side1 => exact sA_ (ZK HO_2436001.out).2.2)
      (case side2 => exact (ZK HO_2436001.out).2.1)
      rintro e w106 ⟨rfl, hb⟩
      have HS4_ := (hb.cell (World.block_lt_of_cell? _ _ (hHeld.2.2.2.2.1))).trans (hHeld.2.2.2.2.1)
      have HS5_ := (hb.cell (World.block_lt_of_cell? _ _ (hHeld.2.2.2.2.2))).trans (hHeld.2.2.2.2.2)
      refine ⟨_, rfl, ?_⟩
      replace HO_12 := Aside0.mk (Kd.R_below (rR_ HO_12.out) hb)
      replace HO_15 := Aside0.mk (Kd.V_below (rV_ HO_15.out) hb)
      replace HO_16 := Aside0.mk (Kd.V_below (rV_ HO_16.out) hb)
      replace HO_2430001 := Aside0.mk (Zz (rS_ HO_2430001.out) hb)
      replace HO_2436001 := Aside0.mk (Zz (rS_ HO_2436001.out) hb)
      replace BK2429 := Aside0.mk (Zg (bq_ BK2429.out) hb)
      replace BK2435 := Aside0.mk (Zg (bq_ BK2435.out) hb)
      replace HB := Aside0.mk (Zh hB_ hb)
      (try clear hb)
      (try clear hb2)
      (try clear hk)
      (try clear hi)
      refine hK.out _ _ ⟨(Za BK2429.out 0).trans rfl, (Za BK2429.out 1).trans rfl, (Za BK2435.out 0).trans rfl, (Za BK2435.out 1).trans rfl, HS4_, HS5_⟩ (fun hHeld => ?_)
      clear hK K
      refine no_ 147 ?_
      refine pu_ 20 148 (m_ 22 2097151) ?_
      refine pu_ 21 149 (m_ 22 4194303) ?_
      refine done_ (done_of HT_.out (by kernel_rfl)) ?_
      try go_wp2
      go_roundg k2
      case measure => have := HJ7.out; have := HK2.out; omega
      case rel => exact ⟨(wrap64 (x17_2 + 1)), sm_, H', ⟨by have := HJ7.out; have := HK2.out; omega⟩, ⟨rR_ HO_12.out⟩, ⟨rV_ HO_15.out⟩, ⟨rV_ HO_16.out⟩, ⟨rS_ HO_2430001.out⟩, ⟨rS_ HO_2436001.out⟩, ⟨bk_ BK2429.out⟩, ⟨bk_ BK2435.out⟩, ⟨hB_⟩⟩
   case rest =>
    clear HC67
    try clear c1
    try clear c2
    try clear p2
    try clear q2
    try clear hx2
    try clear c3
    try clear c4
    try clear c5
    try clear p6
    try clear c7
    try clear c8
    try clear c9
    try clear c10
    try clear p25
    try clear q25
    try clear hx25
    try clear c26
    try clear c27
    try clear c28
    try clear c29
    try clear c30
    try clear c31
    try clear c34
    try clear c35
    try clear c37
    try clear c39
    try clear c42
    try clear c45
    try clear c46
    try clear c47
    try clear c48
    try clear c49
    try clear c50
    try clear p64
    try clear c75
    try clear c78
    try clear c81
    try clear c81b0
    try clear c81b1
    try clear c82
    try clear c82b0
    try clear c82b1
    try clear c82b2
    try clear c89
    try clear c94
    try clear c94b0
    try clear c96
    try clear c96b0
    try clear c98
    try clear c98b0
    try clear c98b1
    try clear c98b2
    try clear c101
    try clear c101b0
    try clear c101b1
    try clear hcz70_0
    try clear hcz70_1
    try clear hcz76_0
    try clear hcz76_1
    try clear hcz90_0
    try clear hcz90_1
    try clear hcz92_0
    try clear hcz92_1
    try clear hfz70_0
    try clear hfz70_1
    try clear hfz76_0
    try clear hfz76_1
    try clear hfz90_0
    try clear hfz90_1
    try clear hfz92_0
    try clear hfz92_1
    try clear hx2505_0
    try clear hx2508_0
    try clear p2
    try clear p2505
    try clear p2508
    try clear q2505
    try clear q2508
    obtain ⟨kq, HA, HJ66, HB⟩ := hcut
    cases kq with
    | zero => exact absurd HA.out (by simp [laws_FnDisputes.j2])
    | succ kj66 =>
     have H := HA.out
     clear HA
     simp only [laws_FnDisputes.j2] at H
     obtain ⟨⟨t2565, t2566, t2569, t2570⟩, A107, H⟩ := bd_ H
     try dsimp only at H
     obtain ⟨t2575, A108, H⟩ := bd_ H
     try dsimp only at H
     by_cases c109 : t2575 = true
     ·subst c109
      rw [if_pos rfl] at H
      try dsimp only at H
      obtain rfl := Option.some.inj H
      go_wp2_with (first | ((with_reducible refine Zl (f := 51) rfl ?_); refine ZI (some 152) rfl rfl Try.func51 (by kernel_rfl) rfl #[.slice A0 l0.length c0] rfl ar_ ?_; (with_reducible refine (spec_DrawIsPartOf.calls kj66 _ _ l0 t2565 t2566 t2569 t2570 _ ?side1 ?side2 A107.out).mono ?_); (case side1 => exact cb_ HR0.out); (case side2 => exact HC0.out); rintro e w110 ⟨v2567, v2571, rfl, ho0, ho1, hb⟩; refine ⟨_, rfl, ?_⟩; have HO2568 := Aside0.mk (Kd.S_lower ho0 (Zm hB_)); have HO2572 := Aside0.mk (Kd.S_lower ho1 (Zm hB_)); replace HB := Aside0.mk (Zh hB_ hb); (try clear hb); (try clear hk); (try clear ho0); (try clear ho1)) | ((with_reducible refine ZA (N := 18) rfl ?_); (try (refine gate_guard (by rfl) ?_; dsimp only)); refine ZC ?hg (N := 18) ?hd (cs := #[.int .i64 0, .slice none 0 0]) (t := 27) ?hr ?_; (case hd => rfl); (case hg => rfl); (case hr => first | (go_simp; done) | (go_simp; rfl)); intro gb2573 hg w111 hbox hb; replace HO2568 := Aside0.mk (Zz (rS_ HO2568.out) hb); replace HO2572 := Aside0.mk (Zz (rS_ HO2572.out) hb); have BK2573 := Aside0.mk (hbox); have GW2573 := Aside0.mk ((hz_ hg : w.heap.size ≤ gb2573)); have GE2573 := Aside0.mk ((hz_ hg : w.heap.size ≤ gb2573)); replace HB := Aside0.mk (Zh hB_ hb); clear hb hbox hg) | ((with_reducible refine ZA (N := 19) rfl ?_); (try (refine gate_guard (by rfl) ?_; dsimp only)); refine ZC ?hg (N := 19) ?hd (cs := #[.int .i64 0, .slice none 0 0]) (t := 27) ?hr ?_; (case hd => rfl); (case hg => rfl); (case hr => first | (go_simp; done) | (go_simp; rfl)); intro gb2574 hg w112 hbox hb; replace HO2568 := Aside0.mk (Zz (rS_ HO2568.out) hb); replace HO2572 := Aside0.mk (Zz (rS_ HO2572.out) hb); have BK2574 := Aside0.mk (hbox); have GW2574 := Aside0.mk ((hz_ hg : w.heap.size ≤ gb2574)); have GE2574 := Aside0.mk ((hz_ hg : w.heap.size ≤ gb2574)); replace HB := Aside0.mk (Zh hB_ hb); have NB2573_2574 := Aside0.mk ((by rw [hg]; exact Nat.ne_of_lt (ZS (bq_ BK2573.out)) : gb2573 ≠ gb2574)); have NB2574_2573 := Aside0.mk ((by rw [hg]; exact Nat.ne_of_gt (ZS (bq_ BK2573.out)) : gb2574 ≠ gb2573)); replace BK2573 := Aside0.mk (Zg (bq_ BK2573.out) hb); clear hb hbox hg; have hnb113 := NB2573_2574.out; have hnc113 := NB2574_2573.out; obtain ⟨hcz114_0, hcz114_1, hfz114_0, hfz114_1⟩ := c2_ BK2573.out; obtain ⟨Ao115, co115, eo115⟩ := ZN HO2568.out; subst eo115) | ((with_reducible refine gate_store (t := 27) (p := 18) rfl ?_); refine store_event (t := 27) (p := 18) (v := ?vo_w116) (w1 := ((w112.setCell ⟨gb2573, 0, none⟩ (.int .i64 t2565)).setCell ⟨gb2573, 1, none⟩ (.slice Ao115 t2566.length co115))) ?hg ?ho ?hn ?hr ?_; (case ho => rfl); (case hg => rfl); (case hn => rfl); (case hr => first | (go_simp; done) | (go_simp; rfl)); intro w116 hw; have n0_ : Aside0 (Kd.S (Kd.slice 3 (Kd.int .i64)) 31 w116 w.heap.size (fun k_ => some k_ ≠ (v2571 : Value).ownBlock) (.slice Ao115 t2566.length co115) t2566) := ⟨(by rw [hw]; exact (by (with_reducible repeat (first | apply Zs | apply Zr | apply Zp)); exact Zt (Zq (p := ⟨gb2573, 1, none⟩) (Zq (p := ⟨gb2573, 0, none⟩) (Zv HO2568.out BK2573.out (by decide)) (fun _ hk => hk.2) (.int .i64 t2565)) (fun _ hk => hk.2) (.slice Ao115 t2566.length co115)) (fun _ hk => hk.1)))⟩; have n1_ : Aside0 (Kd.S (Kd.slice 3 (Kd.int .i64)) 31 w116 w.heap.size (fun k_ => some k_ ≠ (.slice Ao115 t2566.length co115 : Value).ownBlock) v2571 t2570) := ⟨(by rw [hw]; exact (by (with_reducible repeat (first | apply Zs | apply Zr | apply Zp)); exact Zt (Zq (p := ⟨gb2573, 1, none⟩) (Zq (p := ⟨gb2573, 0, none⟩) (Zv HO2572.out BK2573.out (by decide)) (fun _ hk => hk.2) (.int .i64 t2565)) (fun _ hk => hk.2) (.slice Ao115 t2566.length co115)) (fun _ hk => hk.1)))⟩; have n2_ : Aside0 (w116.heap[gb2573]? = some (.cells #[.int .i64 t2565, .slice Ao115 t2566.length co115] 27 (0, 0))) := ⟨(by rw [hw]; exact (by (with_reducible repeat (first | refine Ze ?_ _ | refine Zf ?_ | refine Zd ?_ _)); refine ZB (cs := #[.int .i64 t2565, .slice none 0 0]) ?_ 1 _ rfl; (with_reducible repeat (first | refine Ze ?_ _ | refine Zf ?_ | refine Zd ?_ _)); refine ZB (cs := #[.int .i64 0, .slice none 0 0]) ?_ 0 _ rfl; (with_reducible repeat (first | refine Ze ?_ _ | refine Zf ?_ | refine Zd ?_ _)); exact BK2573.out))⟩; have n3_ : Aside0 (w116.heap[gb2574]? = some (.cells #[.int .i64 0, .slice none 0 0] 27 (0, 0))) := ⟨(by rw [hw]; exact (by (with_reducible repeat (first | refine Ze ?_ _ | refine Zf ?_ | refine Zd ?_ _)); refine ZG ?_ NB2574_2573.out _; (with_reducible repeat (first | refine Ze ?_ _ | refine Zf ?_ | refine Zd ?_ _)); refine ZG ?_ NB2574_2573.out _; (with_reducible repeat (first | refine Ze ?_ _ | refine Zf ?_ | refine Zd ?_ _)); exact BK2574.out))⟩; have n4_ : Aside0 (Below w.heap.size w w116) := ⟨(by rw [hw]; exact hB_)⟩; clear hw; clear HO2568; clear HO2572; clear BK2573; clear BK2574; clear HB; have HO2568 := n0_; have HO2572 := n1_; have BK2573 := n2_; have BK2574 := n3_; have HB := n4_; clear n0_ n1_ n2_ n3_ n4_; obtain ⟨hcz117_0, hcz117_1, hfz117_0, hfz117_1⟩ := c2_ BK2574.out; obtain ⟨Ao118, co118, eo118⟩ := ZN HO2572.out; subst eo118) | ((with_reducible refine gate_store (t := 27) (p := 19) rfl ?_); refine store_event (t := 27) (p := 19) (v := ?vo_w119) (w1 := ((w116.setCell ⟨gb2574, 0, none⟩ (.int .i64 t2569)).setCell ⟨gb2574, 1, none⟩ (.slice Ao118 t2570.length co118))) ?hg ?ho ?hn ?hr ?_; (case ho => rfl); (case hg => rfl); (case hn => rfl); (case hr => first | (go_simp; done) | (go_simp; rfl)); intro w119 hw; have n0_ : Aside0 (Kd.S (Kd.slice 3 (Kd.int .i64)) 31 w119 w.heap.size (fun k_ => some k_ ≠ (.slice Ao118 t2570.length co118 : Value).ownBlock) (.slice Ao115 t2566.length co115) t2566) := ⟨(by rw [hw]; exact (by (with_reducible repeat (first | apply Zs | apply Zr | apply Zp)); exact Zt (Zq (p := ⟨gb2574, 1, none⟩) (Zq (p := ⟨gb2574, 0, none⟩) (Zv HO2568.out BK2574.out (by decide)) (fun _ hk => hk.2) (.int .i64 t2569)) (fun _ hk => hk.2) (.slice Ao118 t2570.length co118)) (fun _ hk => hk.1)))⟩; have n1_ : Aside0 (Kd.S (Kd.slice 3 (Kd.int .i64)) 31 w119 w.heap.size (fun k_ => some k_ ≠ (.slice Ao115 t2566.length co115 : Value).ownBlock) (.slice Ao118 t2570.length co118) t2570) := ⟨(by rw [hw]; exact (by (with_reducible repeat (first | apply Zs | apply Zr | apply Zp)); exact Zt (Zq (p := ⟨gb2574, 1, none⟩) (Zq (p := ⟨gb2574, 0, none⟩) (Zv HO2572.out BK2574.out (by decide)) (fun _ hk => hk.2) (.int .i64 t2569)) (fun _ hk => hk.2) (.slice Ao118 t2570.length co118)) (fun _ hk => hk.1)))⟩; have n2_ : Aside0 (w119.heap[gb2573]? = some (.cells #[.int .i64 t2565, .slice Ao115 t2566.length co115] 27 (0, 0))) := ⟨(by rw [hw]; exact (by (with_reducible repeat (first | refine Ze ?_ _ | refine Zf ?_ | refine Zd ?_ _)); refine ZG ?_ NB2573_2574.out _; (with_reducible repeat (first | refine Ze ?_ _ | refine Zf ?_ | refine Zd ?_ _)); refine ZG ?_ NB2573_2574.out _; (with_reducible repeat (first | refine Ze ?_ _ | refine Zf ?_ | refine Zd ?_ _)); exact BK2573.out))⟩; have n3_ : Aside0 (w119.heap[gb2574]? = some (.cells #[.int .i64 t2569, .slice Ao118 t2570.length co118] 27 (0, 0))) := ⟨(by rw [hw]; exact (by (with_reducible repeat (first | refine Ze ?_ _ | refine Zf ?_ | refine Zd ?_ _)); refine ZB (cs := #[.int .i64 t2569, .slice none 0 0]) ?_ 1 _ rfl; (with_reducible repeat (first | refine Ze ?_ _ | refine Zf ?_ | refine Zd ?_ _)); refine ZB (cs := #[.int .i64 0, .slice none 0 0]) ?_ 0 _ rfl; (with_reducible repeat (first | refine Ze ?_ _ | refine Zf ?_ | refine Zd ?_ _)); exact BK2574.out))⟩; have n4_ : Aside0 (Below w.heap.size w w119) := ⟨(by rw [hw]; exact hB_)⟩; clear hw; clear HO2568; clear HO2572; clear BK2573; clear BK2574; clear HB; have HO2568 := n0_; have HO2572 := n1_; have BK2573 := n2_; have BK2574 := n3_; have HB := n4_; clear n0_ n1_ n2_ n3_ n4_; obtain ⟨hcz120_0, hcz120_1, hfz120_0, hfz120_1⟩ := c2_ BK2573.out; obtain ⟨hcz121_0, hcz121_1, hfz121_0, hfz121_1⟩ := c2_ BK2574.out) | ((with_reducible refine Zl (f := 45) rfl ?_); refine ZI (some 157) rfl rfl Try.func45 (by kernel_rfl) rfl #[.agg #[.int .i64 t2565, .slice Ao115 t2566.length co115], .agg #[.int .i64 t2569, .slice Ao118 t2570.length co118]] rfl ar_ ?_; (with_reducible refine (impl_IsPartOf.calls kj66 t2565 _ _ t2566 t2569 (fun k_ => ((some k_ ≠ (.slice Ao115 t2566.length co115 : Value).ownBlock ∧ k_ ≠ gb2573) ∧ k_ ≠ gb2574)) _ _ t2570 true _ ?side1 ?side2 ?side3 A108.out).mono ?_); (case side1 => exact sA_ (ZK HO2568.out).2.2); (case side2 => exact (ZK HO2568.out).2.1); (case side3 => exact Kd.S_V (Zv (Zv (HO2572.out) BK2573.out (by decide)) BK2574.out (by decide))); rintro e w122 ⟨rfl, hb⟩; refine ⟨_, rfl, ?_⟩; replace HO2568 := Aside0.mk (Zz (rS_ HO2568.out) hb); replace HO2572 := Aside0.mk (Zz (rS_ HO2572.out) hb); replace BK2573 := Aside0.mk (Zg (bq_ BK2573.out) hb); replace BK2574 := Aside0.mk (Zg (bq_ BK2574.out) hb); replace HB := Aside0.mk (Zh hB_ hb); (try clear hb); (try clear hk); obtain ⟨hcz123_0, hcz123_1, hfz123_0, hfz123_1⟩ := c2_ BK2573.out; obtain ⟨hcz124_0, hcz124_1, hfz124_0, hfz124_1⟩ := c2_ BK2574.out))
      all_goals go_ret
      all_goals exact ⟨er_, hB_⟩
     replace c109 := Bool.eq_false_iff.mpr c109
     subst c109
     rw [if_neg (show ¬ (false = true) by decide)] at H
     try dsimp only at H
     obtain rfl := Option.some.inj H
     go_wp2_with (first | ((with_reducible refine Zl (f := 51) rfl ?_); refine ZI (some 152) rfl rfl Try.func51 (by kernel_rfl) rfl #[.slice A0 l0.length c0] rfl ar_ ?_; (with_reducible refine (spec_DrawIsPartOf.calls kj66 _ _ l0 t2565 t2566 t2569 t2570 _ ?side1 ?side2 A107.out).mono ?_); (case side1 => exact cb_ HR0.out); (case side2 => exact HC0.out); rintro e w125 ⟨v2567, v2571, rfl, ho0, ho1, hb⟩; refine ⟨_, rfl, ?_⟩; have HO2568 := Aside0.mk (Kd.S_lower ho0 (Zm hB_)); have HO2572 := Aside0.mk (Kd.S_lower ho1 (Zm hB_)); replace HB := Aside0.mk (Zh hB_ hb); (try clear hb); (try clear hk); (try clear ho0); (try clear ho1)) | ((with_reducible refine ZA (N := 18) rfl ?_); (try (refine gate_guard (by rfl) ?_; dsimp only)); refine ZC ?hg (N := 18) ?hd (cs := #[.int .i64 0, .slice none 0 0]) (t := 27) ?hr ?_; (case hd => rfl); (case hg => rfl); (case hr => first | (go_simp; done) | (go_simp; rfl)); intro gb2573 hg w126 hbox hb; replace HO2568 := Aside0.mk (Zz (rS_ HO2568.out) hb); replace HO2572 := Aside0.mk (Zz (rS_ HO2572.out) hb); have BK2573 := Aside0.mk (hbox); have GW2573 := Aside0.mk ((hz_ hg : w.heap.size ≤ gb2573)); have GE2573 := Aside0.mk ((hz_ hg : w.heap.size ≤ gb2573)); replace HB := Aside0.mk (Zh hB_ hb); clear hb hbox hg) | ((with_reducible refine ZA (N := 19) rfl ?_); (try (refine gate_guard (by rfl) ?_; dsimp only)); refine ZC ?hg (N := 19) ?hd (cs := #[.int .i64 0, .slice none 0 0]) (t := 27) ?hr ?_; (case hd => rfl); (case hg => rfl); (case hr => first | (go_simp; done) | (go_simp; rfl)); intro gb2574 hg w127 hbox hb; replace HO2568 := Aside0.mk (Zz (rS_ HO2568.out) hb); replace HO2572 := Aside0.mk (Zz (rS_ HO2572.out) hb); have BK2574 := Aside0.mk (hbox); have GW2574 := Aside0.mk ((hz_ hg : w.heap.size ≤ gb2574)); have GE2574 := Aside0.mk ((hz_ hg : w.heap.size ≤ gb2574)); replace HB := Aside0.mk (Zh hB_ hb); have NB2573_2574 := Aside0.mk ((by rw [hg]; exact Nat.ne_of_lt (ZS (bq_ BK2573.out)) : gb2573 ≠ gb2574)); have NB2574_2573 := Aside0.mk ((by rw [hg]; exact Nat.ne_of_gt (ZS (bq_ BK2573.out)) : gb2574 ≠ gb2573)); replace BK2573 := Aside0.mk (Zg (bq_ BK2573.out) hb); clear hb hbox hg; have hnb128 := NB2573_2574.out; have hnc128 := NB2574_2573.out; obtain ⟨hcz129_0, hcz129_1, hfz129_0, hfz129_1⟩ := c2_ BK2573.out; obtain ⟨Ao130, co130, eo130⟩ := ZN HO2568.out; subst eo130) | ((with_reducible refine gate_store (t := 27) (p := 18) rfl ?_); refine store_event (t := 27) (p := 18) (v := ?vo_w131) (w1 := ((w127.setCell ⟨gb2573, 0, none⟩ (.int .i64 t2565)).setCell ⟨gb2573, 1, none⟩ (.slice Ao130 t2566.length co130))) ?hg ?ho ?hn ?hr ?_; (case ho => rfl); (case hg => rfl); (case hn => rfl); (case hr => first | (go_simp; done) | (go_simp; rfl)); intro w131 hw; have n0_ : Aside0 (Kd.S (Kd.slice 3 (Kd.int .i64)) 31 w131 w.heap.size (fun k_ => some k_ ≠ (v2571 : Value).ownBlock) (.slice Ao130 t2566.length co130) t2566) := ⟨(by rw [hw]; exact (by (with_reducible repeat (first | apply Zs | apply Zr | apply Zp)); exact Zt (Zq (p := ⟨gb2573, 1, none⟩) (Zq (p := ⟨gb2573, 0, none⟩) (Zv HO2568.out BK2573.out (by decide)) (fun _ hk => hk.2) (.int .i64 t2565)) (fun _ hk => hk.2) (.slice Ao130 t2566.length co130)) (fun _ hk => hk.1)))⟩; have n1_ : Aside0 (Kd.S (Kd.slice 3 (Kd.int .i64)) 31 w131 w.heap.size (fun k_ => some k_ ≠ (.slice Ao130 t2566.length co130 : Value).ownBlock) v2571 t2570) := ⟨(by rw [hw]; exact (by (with_reducible repeat (first | apply Zs | apply Zr | apply Zp)); exact Zt (Zq (p := ⟨gb2573, 1, none⟩) (Zq (p := ⟨gb2573, 0, none⟩) (Zv HO2572.out BK2573.out (by decide)) (fun _ hk => hk.2) (.int .i64 t2565)) (fun _ hk => hk.2) (.slice Ao130 t2566.length co130)) (fun _ hk => hk.1)))⟩; have n2_ : Aside0 (w131.heap[gb2573]? = some (.cells #[.int .i64 t2565, .slice Ao130 t2566.length co130] 27 (0, 0))) := ⟨(by rw [hw]; exact (by (with_reducible repeat (first | refine Ze ?_ _ | refine Zf ?_ | refine Zd ?_ _)); refine ZB (cs := #[.int .i64 t2565, .slice none 0 0]) ?_ 1 _ rfl; (with_reducible repeat (first | refine Ze ?_ _ | refine Zf ?_ | refine Zd ?_ _)); refine ZB (cs := #[.int .i64 0, .slice none 0 0]) ?_ 0 _ rfl; (with_reducible repeat (first | refine Ze ?_ _ | refine Zf ?_ | refine Zd ?_ _)); exact BK2573.out))⟩; have n3_ : Aside0 (w131.heap[gb2574]? = some (.cells #[.int .i64 0, .slice none 0 0] 27 (0, 0))) := ⟨(by rw [hw]; exact (by (with_reducible repeat (first | refine Ze ?_ _ | refine Zf ?_ | refine Zd ?_ _)); refine ZG ?_ NB2574_2573.out _; (with_reducible repeat (first | refine Ze ?_ _ | refine Zf ?_ | refine Zd ?_ _)); refine ZG ?_ NB2574_2573.out _; (with_reducible repeat (first | refine Ze ?_ _ | refine Zf ?_ | refine Zd ?_ _)); exact BK2574.out))⟩; have n4_ : Aside0 (Below w.heap.size w w131) := ⟨(by rw [hw]; exact hB_)⟩; clear hw; clear HO2568; clear HO2572; clear BK2573; clear BK2574; clear HB; have HO2568 := n0_; have HO2572 := n1_; have BK2573 := n2_; have BK2574 := n3_; have HB := n4_; clear n0_ n1_ n2_ n3_ n4_; obtain ⟨hcz132_0, hcz132_1, hfz132_0, hfz132_1⟩ := c2_ BK2574.out; obtain ⟨Ao133, co133, eo133⟩ := ZN HO2572.out; subst eo133) | ((with_reducible refine gate_store (t := 27) (p := 19) rfl ?_); refine store_event (t := 27) (p := 19) (v := ?vo_w134) (w1 := ((w131.setCell ⟨gb2574, 0, none⟩ (.int .i64 t2569)).setCell ⟨gb2574, 1, none⟩ (.slice Ao133 t2570.length co133))) ?hg ?ho ?hn ?hr ?_; (case ho => rfl); (case hg => rfl); (case hn => rfl); (case hr => first | (go_simp; done) | (go_simp; rfl)); intro w134 hw; have n0_ : Aside0 (Kd.S (Kd.slice 3 (Kd.int .i64)) 31 w134 w.heap.size (fun k_ => some k_ ≠ (.slice Ao133 t2570.length co133 : Value).ownBlock) (.slice Ao130 t2566.length co130) t2566) := ⟨(by rw [hw]; exact (by (with_reducible repeat (first | apply Zs | apply Zr | apply Zp)); exact Zt (Zq (p := ⟨gb2574, 1, none⟩) (Zq (p := ⟨gb2574, 0, none⟩) (Zv HO2568.out BK2574.out (by decide)) (fun _ hk => hk.2) (.int .i64 t2569)) (fun _ hk => hk.2) (.slice Ao133 t2570.length co133)) (fun _ hk => hk.1)))⟩; have n1_ : Aside0 (Kd.S (Kd.slice 3 (Kd.int .i64)) 31 w134 w.heap.size (fun k_ => some k_ ≠ (.slice Ao130 t2566.length co130 : Value).ownBlock) (.slice Ao133 t2570.length co133) t2570) := ⟨(by rw [hw]; exact (by (with_reducible repeat (first | apply Zs | apply Zr | apply Zp)); exact Zt (Zq (p := ⟨gb2574, 1, none⟩) (Zq (p := ⟨gb2574, 0, none⟩) (Zv HO2572.out BK2574.out (by decide)) (fun _ hk => hk.2) (.int .i64 t2569)) (fun _ hk => hk.2) (.slice Ao133 t2570.length co133)) (fun _ hk => hk.1)))⟩; have n2_ : Aside0 (w134.heap[gb2573]? = some (.cells #[.int .i64 t2565, .slice Ao130 t2566.length co130] 27 (0, 0))) := ⟨(by rw [hw]; exact (by (with_reducible repeat (first | refine Ze ?_ _ | refine Zf ?_ | refine Zd ?_ _)); refine ZG ?_ NB2573_2574.out _; (with_reducible repeat (first | refine Ze ?_ _ | refine Zf ?_ | refine Zd ?_ _)); refine ZG ?_ NB2573_2574.out _; (with_reducible repeat (first | refine Ze ?_ _ | refine Zf ?_ | refine Zd ?_ _)); exact BK2573.out))⟩; have n3_ : Aside0 (w134.heap[gb2574]? = some (.cells #[.int .i64 t2569, .slice Ao133 t2570.length co133] 27 (0, 0))) := ⟨(by rw [hw]; exact (by (with_reducible repeat (first | refine Ze ?_ _ | refine Zf ?_ | refine Zd ?_ _)); refine ZB (cs := #[.int .i64 t2569, .slice none 0 0]) ?_ 1 _ rfl; (with_reducible repeat (first | refine Ze ?_ _ | refine Zf ?_ | refine Zd ?_ _)); refine ZB (cs := #[.int .i64 0, .slice none 0 0]) ?_ 0 _ rfl; (with_reducible repeat (first | refine Ze ?_ _ | refine Zf ?_ | refine Zd ?_ _)); exact BK2574.out))⟩; have n4_ : Aside0 (Below w.heap.size w w134) := ⟨(by rw [hw]; exact hB_)⟩; clear hw; clear HO2568; clear HO2572; clear BK2573; clear BK2574; clear HB; have HO2568 := n0_; have HO2572 := n1_; have BK2573 := n2_; have BK2574 := n3_; have HB := n4_; clear n0_ n1_ n2_ n3_ n4_; obtain ⟨hcz135_0, hcz135_1, hfz135_0, hfz135_1⟩ := c2_ BK2573.out; obtain ⟨hcz136_0, hcz136_1, hfz136_0, hfz136_1⟩ := c2_ BK2574.out; (try clear BK2573); (try clear BK2574)) | ((with_reducible refine Zl (f := 45) rfl ?_); refine ZI (some 157) rfl rfl Try.func45 (by kernel_rfl) rfl #[.agg #[.int .i64 t2565, .slice Ao130 t2566.length co130], .agg #[.int .i64 t2569, .slice Ao133 t2570.length co133]] rfl ar_ ?_; (with_reducible refine (impl_IsPartOf.calls kj66 t2565 _ _ t2566 t2569 (fun k_ => some k_ ≠ (.slice Ao130 t2566.length co130 : Value).ownBlock) _ _ t2570 false _ ?side1 ?side2 ?side3 A108.out).mono ?_); (case side1 => exact sA_ (ZK HO2568.out).2.2); (case side2 => exact (ZK HO2568.out).2.1); (case side3 => exact Kd.S_V (HO2572.out)); rintro e w137 ⟨rfl, hb⟩; refine ⟨_, rfl, ?_⟩; replace HO2568 := Aside0.mk (Zz (rS_ HO2568.out) hb); replace HO2572 := Aside0.mk (Zz (rS_ HO2572.out) hb); replace HB := Aside0.mk (Zh hB_ hb); (try clear hb); (try clear hk)))
     all_goals go_ret
     all_goals exact ⟨er_, hB_⟩

/-- THE ONE PURE STATEMENT of laws_FnDisputes: yours. -/
def laws_FnDisputes.Pure : Prop := ∀ (l0 : List Int), l0.length ≤ maxLen → l0.length * 1 ≤ 140737488351232 → (∀ x ∈ l0, (Lit.int .u8 x).wf = true) → ∃ k, laws_FnDisputes.f k l0 = some true
theorem laws_FnDisputes.walk (P : laws_FnDisputes.Pure) (a0 : Option Addr) (len0 cap0 : Nat) (z0 : List Int) (w : World) (w0 : (a0 = none ∧ len0 = 0 ∧ cap0 = 0 ∧ z0 = []) ∨ ∃ x, a0 = some x ∧ len0 ≤ cap0 ∧ cap0 ≤ maxLen ∧ z0.length = cap0 ∧ (∀ i, i < z0.length → w.cell? (x.add i) = some (.int .u8 (z0.getD i 0))) ∧ ∀ n ∈ z0, (Lit.int .u8 n).wf = true) (y0 : len0 * 1 ≤ 140737488351232) :
  Calls Try.prog 7 #[.slice a0 len0 cap0] w fun e w' => e = .returned (.bool true) ∧ Below w.heap.size w w' := by
 obtain ⟨l0, rfl, hr0, hm0, hw0, hc0⟩ := ReadsInt.ofRowC w0
 obtain ⟨k, h⟩ := P l0 hm0 y0 hw0
 refine (laws_FnDisputes.calls k _ _ l0 true w (Kd.C_of_reads (d := (0 : Int)) (h1 := fun _ => rfl) hr0) hc0 h).mono ?_
 rintro e w' ⟨rfl, hd⟩
 exact ⟨rfl, hd⟩

end Go.Proofs.Ytdlobolnajcfnaa.PFnDisputes
