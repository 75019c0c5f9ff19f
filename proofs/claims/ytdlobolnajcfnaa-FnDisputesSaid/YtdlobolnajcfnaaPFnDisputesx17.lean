-- Written by a program of this session (hooks of mine on the print): Lean checks it.
import Derived.Test.YtdlobolnajcfnaaPFnDisputesx0
import Derived.Test.YtdlobolnajcfnaaPFnDisputesx1
import Derived.Test.YtdlobolnajcfnaaPFnDisputesx2
import Derived.Test.YtdlobolnajcfnaaPFnDisputesx3
import Derived.Test.YtdlobolnajcfnaaPFnDisputesx11
import Derived.Test.YtdlobolnajcfnaaPFnDisputesx16
namespace Go.Proofs.Ytdlobolnajcfnaa.PFnDisputes
open Go.RowKit Go.Proofs.YtdlobolnajcfnaaW.PrintWords Go.Proofs.YtdlobolnajcfnaaW.PrintLast Go.Proofs.YtdlobolnajcfnaaW.PrintMore
attribute [local go_sem] max2_int min2_int max_two min_two max_three min_three max_four min_four   -- for this text's walks alone
set_option linter.unusedVariables false
set_option linter.unusedSimpArgs false

/-! ### impl_Renamed: function 48 -/
mutual
def impl_Renamed.j0 : Nat → List Int → Bool → Int → List (List Int) → Option (Int × (List (List Int)) × Bool)
 | 0, _, _, _, _ => none
 | k + 1, x1, x20, x543000, x543001 => if x20 = true then ((impl_cloneGraph.f k x543000 x543001).bind fun bt545 => (some (bt545.1, bt545.2, false))) else (impl_Renamed.l0 k x1 x1 (x1.length : Int) 0 x543000 x543001)
def impl_Renamed.l0 : Nat → List Int → List Int → Int → Int → Int → List (List Int) → Option (Int × (List (List Int)) × Bool)
 | 0, _, _, _, _, _, _ => none
 | k + 1, x1, x23, x24, x25, x543000, x543001 => if x25 < x24 then (if 0 ≤ x25 then (if x25 < (x23.length : Int) then ((impl_isClaim.f x543000 x543001 (rd x23 x25)).bind fun t550 => (if t550 = true then (if x25 ≤ (x1.length : Int) then ((slices_Contains_int_int.f k (x1.take (x25 : Int).toNat) (rd x23 x25)).bind fun t552 => (if t552 = true then ((impl_cloneGraph.f k x543000 x543001).bind fun bt553 => (some (bt553.1, bt553.2, false))) else (impl_Renamed.l0 k x1 x23 x24 (wrap64 (x25 + 1)) x543000 x543001))) else (none)) else ((impl_cloneGraph.f k x543000 x543001).bind fun bt557 => (some (bt557.1, bt557.2, false))))) else (none)) else (none)) else (impl_Renamed.l1 k x1 x543001 (x543001.length : Int) 0 x543000 (([] : List (List Int))))
def impl_Renamed.l1 : Nat → List Int → List (List Int) → Int → Int → Int → List (List Int) → Option (Int × (List (List Int)) × Bool)
 | 0, _, _, _, _, _, _ => none
 | k + 1, x1, x49, x50, x51, x565000, x565001 => if x51 < x50 then (if 0 ≤ x51 then (if x51 < (x49.length : Int) then (if 0 < ((rd_L2 x49 x51).length : Int) then (if 0 ≤ (rd (rd_L2 x49 x51) 0) then (if (rd (rd_L2 x49 x51) 0) < (x1.length : Int) then (if 1 < ((rd_L2 x49 x51).length : Int) then (if 0 ≤ (rd (rd_L2 x49 x51) 1) then (if (rd (rd_L2 x49 x51) 1) < (x1.length : Int) then (if x565001.length < 5864062014805 then (impl_Renamed.l1 k x1 x49 x50 (wrap64 (x51 + 1)) x565000 (x565001 ++ [(([rd x1 (rd (rd_L2 x49 x51) 0), rd x1 (rd (rd_L2 x49 x51) 1)] : List Int))])) else (none)) else (none)) else (none)) else (none)) else (none)) else (none)) else (none)) else (none)) else (none)) else ((slices_SortFunc_int_int.f k x565001 67).bind fun t576 => (some (x565000, t576, true)))
end
def impl_Renamed.f (k : Nat) (a0_0 : Int) (l0_1 : List (List Int)) (l1 : List Int) : Option (Int × (List (List Int)) × Bool) := (impl_IsGraph.f k a0_0 l0_1).bind fun t544 => (if t544 = true then (impl_Renamed.j0 k l1 ((l1.length : Int) != a0_0) a0_0 l0_1) else (impl_Renamed.j0 k l1 true a0_0 l0_1))
theorem impl_Renamed.mono_l : ∀ k, (∀ y0 y1 y2 y3, LeO (impl_Renamed.j0 k y0 y1 y2 y3) (impl_Renamed.j0 (k + 1) y0 y1 y2 y3)) ∧ (∀ y0 y1 y2 y3 y4 y5, LeO (impl_Renamed.l0 k y0 y1 y2 y3 y4 y5) (impl_Renamed.l0 (k + 1) y0 y1 y2 y3 y4 y5)) ∧ (∀ y0 y1 y2 y3 y4 y5, LeO (impl_Renamed.l1 k y0 y1 y2 y3 y4 y5) (impl_Renamed.l1 (k + 1) y0 y1 y2 y3 y4 y5))
 | 0 => ⟨fun _ _ _ _ r h => by simp [impl_Renamed.j0] at h, fun _ _ _ _ _ _ r h => by simp [impl_Renamed.l0] at h, fun _ _ _ _ _ _ r h => by simp [impl_Renamed.l1] at h⟩
 | k + 1 => by
  obtain ⟨ih0, ih1, ih2⟩ := impl_Renamed.mono_l k
  refine ⟨?_, ?_, ?_⟩
  ·intro y0 y1 y2 y3
   unfold impl_Renamed.j0
   repeat' with_reducible first | apply ih0 | apply ih1 | apply ih2 | apply impl_IsGraph.mono | apply impl_cloneGraph.mono | apply slices_Contains_int_int.mono | apply slices_SortFunc_int_int.mono | apply ZJ | apply Zn | refine Zu ?_ ?_ | refine Zo ?_ (fun _ => ?_)
  ·intro y0 y1 y2 y3 y4 y5
   unfold impl_Renamed.l0
   repeat' with_reducible first | apply ih0 | apply ih1 | apply ih2 | apply impl_IsGraph.mono | apply impl_cloneGraph.mono | apply slices_Contains_int_int.mono | apply slices_SortFunc_int_int.mono | apply ZJ | apply Zn | refine Zu ?_ ?_ | refine Zo ?_ (fun _ => ?_)
  ·intro y0 y1 y2 y3 y4 y5
   unfold impl_Renamed.l1
   repeat' with_reducible first | apply ih0 | apply ih1 | apply ih2 | apply impl_IsGraph.mono | apply impl_cloneGraph.mono | apply slices_Contains_int_int.mono | apply slices_SortFunc_int_int.mono | apply ZJ | apply Zn | refine Zu ?_ ?_ | refine Zo ?_ (fun _ => ?_)
theorem impl_Renamed.mono : ∀ a0 a1 a2 k, LeO (impl_Renamed.f k a0 a1 a2) (impl_Renamed.f (k + 1) a0 a1 a2) := by
 intro a0 a1 a2 k
 obtain ⟨ih0, ih1, ih2⟩ := impl_Renamed.mono_l k
 unfold impl_Renamed.f
 repeat' with_reducible first | apply ih0 | apply ih1 | apply ih2 | apply impl_IsGraph.mono | apply impl_cloneGraph.mono | apply slices_Contains_int_int.mono | apply slices_SortFunc_int_int.mono | apply ZJ | apply Zn | refine Zu ?_ ?_ | refine Zo ?_ (fun _ => ?_)
def impl_Renamed.T13 : Bool × List (List Nat × List Nat) := (true, [([], []), ([0], [0]), ([], []), ([], []), ([3], [3]), ([4], [4]), ([2, 5], [2, 5]), ([6], [6]), ([], []), ([], []), ([9], [9]), ([10], [10]), ([8, 11], [8, 11]), ([12], [12]), ([7, 13], [7, 13]), ([14], [14]), ([1, 15], [1, 15]), ([0, 1, 2, 3, 4, 5, 6, 7, 8, 9, 10, 11, 12, 13, 14, 15, 16], []), ([17, 16, 16, 0, 1, 2, 3, 4, 5, 6, 7, 8, 9, 10, 11, 12, 13, 14, 15, 16], [16, 17])])
def impl_Renamed.B13 : List Nat := [0, 1, 0, 0, 8, 24, 60, 124, 0, 0, 512, 1536, 3840, 7936, 16380, 32764, 65535, 131071, 262143]
theorem impl_Renamed.tab13 : rtab .any (opsOf Try.f48 13) = impl_Renamed.T13 := by kernel_rfl
theorem impl_Renamed.bits13 : waitsOk impl_Renamed.T13.2 impl_Renamed.B13 = true := by kernel_rfl
set_option maxHeartbeats 8000000 in
set_option maxRecDepth 100000 in
theorem impl_Renamed.calls (k : Nat) (a0_0 : Int) (A0_1 : Option Addr) (c0_1 : Nat) (l0_1 : List (List Int)) (A1 : Option Addr) (c1 : Nat) (l1 : List Int) (r1 : Int) (r2 : List (List Int)) (r3 : Bool) (w : World) (hr0_1 : Kd.C (Kd.slice 3 (Kd.int .i64)) w A0_1 l0_1.length l0_1) (hc0_1 : l0_1.length ≤ c0_1) (hr1 : Kd.C (Kd.int .i64) w A1 l1.length l1) (hc1 : l1.length ≤ c1) (h : impl_Renamed.f k a0_0 l0_1 l1 = some (r1, r2, r3)) :
  Calls Try.prog 48 #[.agg #[.int .i64 a0_0, .slice A0_1 l0_1.length c0_1], .slice A1 l1.length c1] w fun e w' => ∃ v1_ : Value, e = .returned (.tuple #[.agg #[.int .i64 r1, v1_], .bool r3]) ∧ Kd.S (Kd.slice 3 (Kd.int .i64)) 31 w' w.heap.size (fun _ => True) v1_ r2 ∧ Below w.heap.size w w' := by
 have hu27 := Try.underlying27
 have HR0_1 := Aside0.mk hr0_1
 have HC0_1 := Aside0.mk hc0_1
 clear hr0_1 hc0_1
 have HR1 := Aside0.mk hr1
 have HC1 := Aside0.mk hc1
 clear hr1 hc1
 have HB := Aside0.mk (Below.refl w.heap.size w)
 have H := h
 unfold impl_Renamed.f at H
 clear h
 have HC3 := Aside0.mk H
 clear H
 go_enter Try.func48, Try.ntmps48
 go_upto_region 1 with (first | ((with_reducible refine ZA (N := 2) rfl ?_); (try (refine gate_guard (by rfl) ?_; dsimp only)); refine ZC ?hg (N := 2) ?hd (cs := #[.int .i64 a0_0, .slice A0_1 l0_1.length c0_1]) (t := 27) ?hr ?_; (case hd => rfl); (case hg => rfl); (case hr => first | (go_simp; done) | (go_simp; rfl)); intro gb542 hg w4 hbox hb; have BK542 := Aside0.mk (hbox); have GW542 := Aside0.mk ((hz_ hg : w.heap.size ≤ gb542)); have GE542 := Aside0.mk ((hz_ hg : w.heap.size ≤ gb542)); replace HB := Aside0.mk (Zh hB_ hb); clear hb hbox hg) | ((with_reducible refine ZA (N := 4) rfl ?_); (try (refine gate_guard (by rfl) ?_; dsimp only)); refine ZC ?hg (N := 4) ?hd (cs := #[.int .i64 0, .slice none 0 0]) (t := 27) ?hr ?_; (case hd => rfl); (case hg => rfl); (case hr => first | (go_simp; done) | (go_simp; rfl)); intro gb543 hg w5 hbox hb; have BK543 := Aside0.mk (hbox); have GW543 := Aside0.mk ((hz_ hg : w.heap.size ≤ gb543)); have GE543 := Aside0.mk ((hz_ hg : w.heap.size ≤ gb543)); replace HB := Aside0.mk (Zh hB_ hb); have NB542_543 := Aside0.mk ((by rw [hg]; exact Nat.ne_of_lt (ZS (bq_ BK542.out)) : gb542 ≠ gb543)); have NB543_542 := Aside0.mk ((by rw [hg]; exact Nat.ne_of_gt (ZS (bq_ BK542.out)) : gb543 ≠ gb542)); replace BK542 := Aside0.mk (Zg (bq_ BK542.out) hb); clear hb hbox hg))
 (try simp only [Act.put, ZW, List.set_cons_zero, List.set_cons_succ])
 go_cut [20] (fun v20 wc => ∃ (kq : Nat) (x20_2 : Bool), v20 = .bool x20_2 ∧ Aside0 (impl_Renamed.j0 kq l1 x20_2 a0_0 l0_1 = some (r1, r2, r3)) ∧ Aside0 (kq ≤ k) ∧ Aside0 (wc.heap[gb542]? = some (.cells #[.int .i64 a0_0, (.slice A0_1 l0_1.length c0_1)] 27 (0, 0))) ∧ Aside0 (wc.heap[gb543]? = some (.cells #[.int .i64 0, (.slice none 0 0)] 27 (0, 0))) ∧ Aside0 (Below w.heap.size w wc))
 case first =>
  have H := HC3.out
  clear HC3
  obtain ⟨t544, A6, H⟩ := bd_ H
  try dsimp only at H
  by_cases c7 : t544 = true
  ·subst c7
   have H1 : (impl_Renamed.j0 k l1 ((l1.length : Int) != a0_0) a0_0 l0_1) = some (r1, r2, r3) := by rw [if_pos rfl] at H; exact H
   clear H
   have H := H1
   clear H1
   have H' := Aside0.mk H
   clear H
   have hnb8 := NB542_543.out
   have hnc8 := NB543_542.out
   obtain ⟨hcz9_0, hcz9_1, hfz9_0, hfz9_1⟩ := c2_ BK542.out
   go_wp2_with (first | ((with_reducible refine Zl (f := 24) rfl ?_); refine ZI (some 12) rfl rfl Try.func24 (by kernel_rfl) rfl #[.agg #[.int .i64 a0_0, .slice A0_1 l0_1.length c0_1]] rfl ar_ ?_; (with_reducible refine (impl_IsGraph.calls k a0_0 _ _ l0_1 true _ ?side1 ?side2 A6.out).mono ?_); (case side1 => exact cb_ HR0_1.out); (case side2 => exact HC0_1.out); rintro e w10 ⟨rfl, hb⟩; refine ⟨_, rfl, ?_⟩; replace BK542 := Aside0.mk (Zg (bq_ BK542.out) hb); replace BK543 := Aside0.mk (Zg (bq_ BK543.out) hb); replace HB := Aside0.mk (Zh hB_ hb); (try clear hb); obtain ⟨hcz11_0, hcz11_1, hfz11_0, hfz11_1⟩ := c2_ BK542.out))
   go_meet
   case rel => exact ⟨_, (((l1.length : Int) != a0_0)), sm_, H', ⟨by first | omega | exact Nat.le_refl _⟩, ⟨bk_ BK542.out⟩, ⟨bk_ BK543.out⟩, ⟨hB_⟩⟩
  replace c7 := Bool.eq_false_iff.mpr c7
  subst c7
  have H1 : (impl_Renamed.j0 k l1 true a0_0 l0_1) = some (r1, r2, r3) := by rw [if_neg (show ¬ (false = true) by decide)] at H; exact H
  clear H
  have H := H1
  clear H1
  have H' := Aside0.mk H
  clear H
  have hnb12 := NB542_543.out
  have hnc12 := NB543_542.out
  obtain ⟨hcz13_0, hcz13_1, hfz13_0, hfz13_1⟩ := c2_ BK542.out
  go_wp2_with (first | ((with_reducible refine Zl (f := 24) rfl ?_); refine ZI (some 12) rfl rfl Try.func24 (by kernel_rfl) rfl #[.agg #[.int .i64 a0_0, .slice A0_1 l0_1.length c0_1]] rfl ar_ ?_; (with_reducible refine (impl_IsGraph.calls k a0_0 _ _ l0_1 false _ ?side1 ?side2 A6.out).mono ?_); (case side1 => exact cb_ HR0_1.out); (case side2 => exact HC0_1.out); rintro e w14 ⟨rfl, hb⟩; refine ⟨_, rfl, ?_⟩; replace BK542 := Aside0.mk (Zg (bq_ BK542.out) hb); replace BK543 := Aside0.mk (Zg (bq_ BK543.out) hb); replace HB := Aside0.mk (Zh hB_ hb); (try clear hb)))
  go_meet
  case rel => exact ⟨_, (true), sm_, H', ⟨by first | omega | exact Nat.le_refl _⟩, ⟨bk_ BK542.out⟩, ⟨bk_ BK543.out⟩, ⟨hB_⟩⟩
 case rest =>
  clear HC3
  try clear c1
  try clear c2
  try clear p2
  try clear c4
  try clear c7
  try clear c8
  try clear c12
  try clear hcz11_0
  try clear hcz11_1
  try clear hcz13_0
  try clear hcz13_1
  try clear hcz9_0
  try clear hcz9_1
  try clear hfz11_0
  try clear hfz11_1
  try clear hfz13_0
  try clear hfz13_1
  try clear hfz9_0
  try clear hfz9_1
  obtain ⟨kq, x20_2, rfl, HA, HJ2, BK542, BK543, HB⟩ := hcut
  cases kq with
  | zero => exact absurd HA.out (by simp [impl_Renamed.j0])
  | succ kj2 =>
   have H := HA.out
   clear HA
   simp only [impl_Renamed.j0] at H
   by_cases c15 : x20_2 = true
   ·subst c15
    have H1 : ((impl_cloneGraph.f kj2 a0_0 l0_1).bind fun bt545 => (some (bt545.1, bt545.2, false))) = some (r1, r2, r3) := by rw [if_pos rfl] at H; exact H
    clear H
    have H := H1
    clear H1
    obtain ⟨⟨t545, t546⟩, A16, H⟩ := bd_ H
    try dsimp only at H
    simp only [Option.some.injEq, Prod.mk.injEq] at H
    obtain ⟨rfl, rfl, rfl⟩ := H
    have hnb17 := NB542_543.out
    have hnc17 := NB543_542.out
    obtain ⟨hcz18_0, hcz18_1, hfz18_0, hfz18_1⟩ := c2_ BK542.out
    (try clear BK542)
    go_wp2_with (first | ((with_reducible refine Zl (f := 91) rfl ?_); refine ZI (some 22) rfl rfl Try.func91 (by kernel_rfl) rfl #[.agg #[.int .i64 a0_0, .slice A0_1 l0_1.length c0_1]] rfl ar_ ?_; (with_reducible refine (impl_cloneGraph.calls kj2 a0_0 _ _ l0_1 t545 t546 _ ?side1 ?side2 A16.out).mono ?_); (case side1 => exact cb_ HR0_1.out); (case side2 => exact HC0_1.out); rintro e w19 ⟨v547, rfl, ho0, hb⟩; refine ⟨_, rfl, ?_⟩; have HO548 := Aside0.mk (Kd.S_lower ho0 (Zm hB_)); replace BK543 := Aside0.mk (Zg (bq_ BK543.out) hb); replace HB := Aside0.mk (Zh hB_ hb); (try clear hb); (try clear ho0); obtain ⟨hcz20_0, hcz20_1, hfz20_0, hfz20_1⟩ := c2_ BK543.out; obtain ⟨Ao21, co21, eo21⟩ := ZN HO548.out; subst eo21))
    refine bodyPost_ret (results_ct rfl _ _ gb543 27 #[.int .i64 t545, .slice Ao21 t546.length co21] (0, 0) _ rfl (by (with_reducible repeat (first | refine Ze ?_ _ | refine Zf ?_ | refine Zd ?_ _)); refine ZB (cs := #[.int .i64 t545, .slice none 0 0]) ?_ 1 _ rfl; (with_reducible repeat (first | refine Ze ?_ _ | refine Zf ?_ | refine Zd ?_ _)); refine ZB (cs := #[.int .i64 0, .slice none 0 0]) ?_ 0 _ rfl; (with_reducible repeat (first | refine Ze ?_ _ | refine Zf ?_ | refine Zd ?_ _)); exact BK543.out) Try.underlying27 rfl (by kernel_rfl)) rfl ?_
    exact ⟨_, er_, by (with_reducible repeat (first | apply Zs | apply Zr | apply Zp)); exact Zt (Zq (p := ⟨gb543, 1, none⟩) (Zq (p := ⟨gb543, 0, none⟩) (Zv HO548.out BK543.out (by decide)) (fun _ hk => hk.2) (.int .i64 t545)) (fun _ hk => hk.2) (.slice Ao21 t546.length co21)) (fun _ hk => trivial), hB_⟩
   replace c15 := Bool.eq_false_iff.mpr c15
   subst c15
   have H1 : (impl_Renamed.l0 kj2 l1 l1 (l1.length : Int) 0 a0_0 l0_1) = some (r1, r2, r3) := by rw [if_neg (show ¬ (false = true) by decide)] at H; exact H
   clear H
   have H := H1
   clear H1
   have H' := Aside0.mk H
   clear H
   go_wp2
   go_loopg [25] kj2 (fun kq v25 w' => ∃ (x25_2 : Int) (x544000_2 : Int), v25 = .int .i64 x25_2 ∧ Aside0 (impl_Renamed.l0 kq l1 l1 (l1.length : Int) x25_2 a0_0 l0_1 = some (r1, r2, r3)) ∧ Aside0 (kq ≤ kj2) ∧ Aside0 (w'.heap[gb542]? = some (.cells #[.int .i64 a0_0, (.slice A0_1 l0_1.length c0_1)] 27 (0, 0))) ∧ Aside0 (w'.heap[gb543]? = some (.cells #[.int .i64 x544000_2, (.slice none 0 0)] 27 (0, 0))) ∧ Aside0 (Below w.heap.size w w'))
   case atStart => exact ⟨(0), (0), sm_, H', ⟨Nat.le_refl _⟩, ⟨bk_ BK542.out⟩, ⟨bk_ BK543.out⟩, ⟨hB_⟩⟩
   case round =>
    clear H'
    try clear c1
    try clear c2
    try clear p2
    try clear c4
    try clear c7
    try clear c8
    try clear c9
    try clear c12
    try clear c15
    try clear c17
    try clear hcz11_0
    try clear hcz11_1
    try clear hcz13_0
    try clear hcz13_1
    try clear hcz18_0
    try clear hcz18_1
    try clear hcz20_0
    try clear hcz20_1
    try clear hcz9_0
    try clear hcz9_1
    try clear hfz11_0
    try clear hfz11_1
    try clear hfz13_0
    try clear hfz13_1
    try clear hfz18_0
    try clear hfz18_1
    try clear hfz20_0
    try clear hfz20_1
    try clear hfz9_0
    try clear hfz9_1
    try clear p2
    obtain ⟨x25_2, x544000_2, rfl, HA, HK2, BK542, BK543, HB⟩ := hrel
    cases gk with
    | zero => exact absurd HA.out (by simp [impl_Renamed.l0])
    | succ k2 =>
     have H := HA.out
     clear HA
     simp only [impl_Renamed.l0] at H
     by_cases c22 : x25_2 < (l1.length : Int)
     ·rw [if_pos c22] at H
      have c22b0 : decide (x25_2 < (l1.length : Int)) = true := decide_eq_true c22
      clear c22
      by_cases c23 : 0 ≤ x25_2
      rotate_left
      ·rw [if_neg c23] at H
       exact absurd H (by simp)
      rw [if_pos c23] at H
      have c23b0 : decide (0 ≤ x25_2) = true := decide_eq_true c23
      clear c23
      by_cases c24 : x25_2 < (l1.length : Int)
      rotate_left
      ·rw [if_neg c24] at H
       exact absurd H (by simp)
      rw [if_pos c24] at H
      have c24b0 : decide (x25_2 < (l1.length : Int)) = true := decide_eq_true c24
      clear c24
      obtain ⟨t550, A25, H⟩ := bd_ H
      try dsimp only at H
      by_cases c26 : t550 = true
      rotate_left
      ·replace c26 := Bool.eq_false_iff.mpr c26
       subst c26
       have H1 : ((impl_cloneGraph.f k2 a0_0 l0_1).bind fun bt557 => (some (bt557.1, bt557.2, false))) = some (r1, r2, r3) := by rw [if_neg (show ¬ (false = true) by decide)] at H; exact H
       clear H
       have H := H1
       clear H1
       obtain ⟨⟨t557, t558⟩, A44, H⟩ := bd_ H
       try dsimp only at H
       simp only [Option.some.injEq, Prod.mk.injEq] at H
       obtain ⟨rfl, rfl, rfl⟩ := H
       have p549 : 0 ≤ (x25_2 : Int) := of_decide_eq_true as_
       have q549 : x25_2 < (l1.length : Int) := of_decide_eq_true as_
       obtain ⟨ad549, e549, hx549_0⟩ := Zx HR1.out x25_2 p549 q549
       cases e549
       replace hx549_0 := (HB.out.cell (World.block_lt_of_cell? w _ hx549_0)).trans hx549_0
       replace p549 := eq_true p549
       replace q549 := eq_true q549
       have hnb45 := NB542_543.out
       have hnc45 := NB543_542.out
       obtain ⟨hcz46_0, hcz46_1, hfz46_0, hfz46_1⟩ := c2_ BK542.out
       go_wp2_with (first | ((with_reducible refine Zl (f := 61) rfl ?_); refine ZI (some 32) rfl rfl Try.func61 (by kernel_rfl) rfl #[.agg #[.int .i64 a0_0, .slice A0_1 l0_1.length c0_1], .int .i64 (rd l1 x25_2)] rfl ar_ ?_; (with_reducible refine (impl_isClaim.calls a0_0 _ _ l0_1 (rd l1 x25_2) false _ ?side1 ?side2 A25.out).mono ?_); (case side1 => exact cb_ HR0_1.out); (case side2 => exact HC0_1.out); rintro e w47 ⟨rfl, hb⟩; refine ⟨_, rfl, ?_⟩; replace BK542 := Aside0.mk (Zg (bq_ BK542.out) hb); replace BK543 := Aside0.mk (Zg (bq_ BK543.out) hb); replace HB := Aside0.mk (Zh hB_ hb); (try clear hb); obtain ⟨hcz48_0, hcz48_1, hfz48_0, hfz48_1⟩ := c2_ BK542.out; (try clear BK542)) | ((with_reducible refine Zl (f := 91) rfl ?_); refine ZI (some 42) rfl rfl Try.func91 (by kernel_rfl) rfl #[.agg #[.int .i64 a0_0, .slice A0_1 l0_1.length c0_1]] rfl ar_ ?_; (with_reducible refine (impl_cloneGraph.calls k2 a0_0 _ _ l0_1 t557 t558 _ ?side1 ?side2 A44.out).mono ?_); (case side1 => exact cb_ HR0_1.out); (case side2 => exact HC0_1.out); rintro e w49 ⟨v559, rfl, ho0, hb⟩; refine ⟨_, rfl, ?_⟩; have HO560 := Aside0.mk (Kd.S_lower ho0 (Zm hB_)); replace BK543 := Aside0.mk (Zg (bq_ BK543.out) hb); replace HB := Aside0.mk (Zh hB_ hb); (try clear hb); (try clear ho0); obtain ⟨hcz50_0, hcz50_1, hfz50_0, hfz50_1⟩ := c2_ BK543.out; obtain ⟨Ao51, co51, eo51⟩ := ZN HO560.out; subst eo51))
       refine bodyPost_ret (results_ct rfl _ _ gb543 27 #[.int .i64 t557, .slice Ao51 t558.length co51] (0, 0) _ rfl (by (with_reducible repeat (first | refine Ze ?_ _ | refine Zf ?_ | refine Zd ?_ _)); refine ZB (cs := #[.int .i64 t557, .slice none 0 0]) ?_ 1 _ rfl; (with_reducible repeat (first | refine Ze ?_ _ | refine Zf ?_ | refine Zd ?_ _)); refine ZB (cs := #[.int .i64 x544000_2, .slice none 0 0]) ?_ 0 _ rfl; (with_reducible repeat (first | refine Ze ?_ _ | refine Zf ?_ | refine Zd ?_ _)); exact BK543.out) Try.underlying27 rfl (by kernel_rfl)) rfl ?_
       exact ⟨_, er_, by (with_reducible repeat (first | apply Zs | apply Zr | apply Zp)); exact Zt (Zq (p := ⟨gb543, 1, none⟩) (Zq (p := ⟨gb543, 0, none⟩) (Zv HO560.out BK543.out (by decide)) (fun _ hk => hk.2) (.int .i64 t557)) (fun _ hk => hk.2) (.slice Ao51 t558.length co51)) (fun _ hk => trivial), hB_⟩
      subst c26
      have H1 : (if x25_2 ≤ (l1.length : Int) then ((slices_Contains_int_int.f k2 (l1.take (x25_2 : Int).toNat) (rd l1 x25_2)).bind fun t552 => (if t552 = true then ((impl_cloneGraph.f k2 a0_0 l0_1).bind fun bt553 => (some (bt553.1, bt553.2, false))) else (impl_Renamed.l0 k2 l1 l1 (l1.length : Int) (wrap64 (x25_2 + 1)) a0_0 l0_1))) else (none)) = some (r1, r2, r3) := by rw [if_pos rfl] at H; exact H
      clear H
      have H := H1
      clear H1
      have c27b0 := eq_true (of_decide_eq_true as_ : 0 ≤ x25_2)
      by_cases c28 : x25_2 ≤ (l1.length : Int)
      rotate_left
      ·rw [if_neg c28] at H
       exact absurd H (by simp)
      rw [if_pos c28] at H
      have c28b0 := eq_true c28
      have c28b1 : decide (x25_2 ≤ (l1.length : Int)) = true := decide_eq_true c28
      clear c28
      obtain ⟨t552, A29, H⟩ := bd_ H
      try dsimp only at H
      by_cases c30 : t552 = true
      rotate_left
      ·replace c30 := Bool.eq_false_iff.mpr c30
       subst c30
       have H1 : (impl_Renamed.l0 k2 l1 l1 (l1.length : Int) (wrap64 (x25_2 + 1)) a0_0 l0_1) = some (r1, r2, r3) := by rw [if_neg (show ¬ (false = true) by decide)] at H; exact H
       clear H
       have H := H1
       clear H1
       have H' := Aside0.mk H
       clear H
       have p549 : 0 ≤ (x25_2 : Int) := of_decide_eq_true as_
       have q549 : x25_2 < (l1.length : Int) := of_decide_eq_true as_
       obtain ⟨ad549, e549, hx549_0⟩ := Zx HR1.out x25_2 p549 q549
       cases e549
       replace hx549_0 := (HB.out.cell (World.block_lt_of_cell? w _ hx549_0)).trans hx549_0
       replace p549 := eq_true p549
       replace q549 := eq_true q549
       have hnb40 := NB542_543.out
       have hnc40 := NB543_542.out
       obtain ⟨hcz41_0, hcz41_1, hfz41_0, hfz41_1⟩ := c2_ BK542.out
       go_wp2_with (first | ((with_reducible refine Zl (f := 61) rfl ?_); refine ZI (some 32) rfl rfl Try.func61 (by kernel_rfl) rfl #[.agg #[.int .i64 a0_0, .slice A0_1 l0_1.length c0_1], .int .i64 (rd l1 x25_2)] rfl ar_ ?_; (with_reducible refine (impl_isClaim.calls a0_0 _ _ l0_1 (rd l1 x25_2) true _ ?side1 ?side2 A25.out).mono ?_); (case side1 => exact cb_ HR0_1.out); (case side2 => exact HC0_1.out); rintro e w42 ⟨rfl, hb⟩; refine ⟨_, rfl, ?_⟩; replace BK542 := Aside0.mk (Zg (bq_ BK542.out) hb); replace BK543 := Aside0.mk (Zg (bq_ BK543.out) hb); replace HB := Aside0.mk (Zh hB_ hb); (try clear hb); obtain ⟨i043, hi043, _, hsz43, _⟩ := info_parts info3; obtain ⟨hcut43, hA43, hC43⟩ := print_take_of (P := Try.prog) (Value.int .i64) 0 31 3 .i64 Try.underlying31 hi043 hsz43 (some ad549) c1 l1 x25_2 (of_decide_eq_true as_) (of_decide_eq_true as_) HC1.out; have HR551 := Aside0.mk (Kd.C_of_reads (h1 := fun _ => rfl) (hA43 _ (Kd.reads_of_C HR1.out))); have HC551 := Aside0.mk hC43; clear hA43 hC43 hi043 hsz43) | (go_at_call 80; (try rw [show (x25_2 : Int).toNat = (l1.take (x25_2 : Int).toNat).length from (by rw [List.length_take]; have q_ := of_decide_eq_true c22b0; omega)]); (with_reducible refine (slices_Contains_int_int.calls k2 _ _ (l1.take (x25_2 : Int).toNat) (rd l1 x25_2) false _ ?side1 ?side2 A29.out).mono ?_); (case side1 => exact cb_ HR551.out); (case side2 => exact HC551.out); rintro e w' ⟨rfl, ⟨nd, rfl⟩⟩))
       go_roundg k2
       case measure => have := HJ2.out; have := HK2.out; omega
       case rel => exact ⟨(wrap64 (x25_2 + 1)), (x544000_2), sm_, H', ⟨by have := HJ2.out; have := HK2.out; omega⟩, ⟨bk_ BK542.out⟩, ⟨bk_ BK543.out⟩, ⟨hB_⟩⟩
      subst c30
      have H1 : ((impl_cloneGraph.f k2 a0_0 l0_1).bind fun bt553 => (some (bt553.1, bt553.2, false))) = some (r1, r2, r3) := by rw [if_pos rfl] at H; exact H
      clear H
      have H := H1
      clear H1
      obtain ⟨⟨t553, t554⟩, A31, H⟩ := bd_ H
      try dsimp only at H
      simp only [Option.some.injEq, Prod.mk.injEq] at H
      obtain ⟨rfl, rfl, rfl⟩ := H
      have p549 : 0 ≤ (x25_2 : Int) := of_decide_eq_true as_
      have q549 : x25_2 < (l1.length : Int) := of_decide_eq_true as_
      obtain ⟨ad549, e549, hx549_0⟩ := Zx HR1.out x25_2 p549 q549
      cases e549
      replace hx549_0 := (HB.out.cell (World.block_lt_of_cell? w _ hx549_0)).trans hx549_0
      replace p549 := eq_true p549
      replace q549 := eq_true q549
      have hnb32 := NB542_543.out
      have hnc32 := NB543_542.out
      obtain ⟨hcz33_0, hcz33_1, hfz33_0, hfz33_1⟩ := c2_ BK542.out
      go_wp2_with (first | ((with_reducible refine Zl (f := 61) rfl ?_); refine ZI (some 32) rfl rfl Try.func61 (by kernel_rfl) rfl #[.agg #[.int .i64 a0_0, .slice A0_1 l0_1.length c0_1], .int .i64 (rd l1 x25_2)] rfl ar_ ?_; (with_reducible refine (impl_isClaim.calls a0_0 _ _ l0_1 (rd l1 x25_2) true _ ?side1 ?side2 A25.out).mono ?_); (case side1 => exact cb_ HR0_1.out); (case side2 => exact HC0_1.out); rintro e w34 ⟨rfl, hb⟩; refine ⟨_, rfl, ?_⟩; replace BK542 := Aside0.mk (Zg (bq_ BK542.out) hb); replace BK543 := Aside0.mk (Zg (bq_ BK543.out) hb); replace HB := Aside0.mk (Zh hB_ hb); (try clear hb); obtain ⟨i035, hi035, _, hsz35, _⟩ := info_parts info3; obtain ⟨hcut35, hA35, hC35⟩ := print_take_of (P := Try.prog) (Value.int .i64) 0 31 3 .i64 Try.underlying31 hi035 hsz35 (some ad549) c1 l1 x25_2 (of_decide_eq_true as_) (of_decide_eq_true as_) HC1.out; have HR551 := Aside0.mk (Kd.C_of_reads (h1 := fun _ => rfl) (hA35 _ (Kd.reads_of_C HR1.out))); have HC551 := Aside0.mk hC35; clear hA35 hC35 hi035 hsz35) | (go_at_call 80; (try rw [show (x25_2 : Int).toNat = (l1.take (x25_2 : Int).toNat).length from (by rw [List.length_take]; have q_ := of_decide_eq_true c22b0; omega)]); (with_reducible refine (slices_Contains_int_int.calls k2 _ _ (l1.take (x25_2 : Int).toNat) (rd l1 x25_2) true _ ?side1 ?side2 A29.out).mono ?_); (case side1 => exact cb_ HR551.out); (case side2 => exact HC551.out); rintro e w' ⟨rfl, ⟨nd, rfl⟩⟩; (try (rw [drewN_self w34]; generalize hq_ : World.drewN w34 _ = w34; have n0_ : Aside0 (w34.heap[gb542]? = some (.cells #[.int .i64 a0_0, .slice A0_1 l0_1.length c0_1] 27 (0, 0))) := ⟨by rw [← hq_]; exact (bk_ BK542.out)⟩; have n1_ : Aside0 (w34.heap[gb543]? = some (.cells #[.int .i64 x544000_2, .slice none 0 0] 27 (0, 0))) := ⟨by rw [← hq_]; exact (bk_ BK543.out)⟩; have n2_ : Aside0 (Below w.heap.size w w34) := ⟨by rw [← hq_]; exact hB_⟩; clear BK542 BK543 HB hq_; have BK542 := n0_; have BK543 := n1_; have HB := n2_; clear n0_ n1_ n2_)); (try (have hcugb542_0 : w34.cell? ⟨gb542, 0, none⟩ = some (.int .i64 a0_0) := (Za BK542.out 0).trans rfl)); (try (have hfugb542_0 := Zb BK542.out 0)); (try (have hcugb542_1 : w34.cell? ⟨gb542, 1, none⟩ = some (.slice A0_1 l0_1.length c0_1) := (Za BK542.out 1).trans rfl)); (try (have hfugb542_1 := Zb BK542.out 1)); (try (have hcugb543_0 : w34.cell? ⟨gb543, 0, none⟩ = some (.int .i64 x544000_2) := (Za BK543.out 0).trans rfl)); (try (have hfugb543_0 := Zb BK543.out 0)); (try (have hcugb543_1 : w34.cell? ⟨gb543, 1, none⟩ = some (.slice none 0 0) := (Za BK543.out 1).trans rfl)); (try (have hfugb543_1 := Zb BK543.out 1)); obtain ⟨hcz36_0, hcz36_1, hfz36_0, hfz36_1⟩ := c2_ BK542.out; (try clear BK542)) | ((with_reducible refine Zl (f := 91) rfl ?_); refine ZI (some 42) rfl rfl Try.func91 (by kernel_rfl) rfl #[.agg #[.int .i64 a0_0, .slice A0_1 l0_1.length c0_1]] rfl ar_ ?_; (with_reducible refine (impl_cloneGraph.calls k2 a0_0 _ _ l0_1 t553 t554 _ ?side1 ?side2 A31.out).mono ?_); (case side1 => exact cb_ HR0_1.out); (case side2 => exact HC0_1.out); rintro e w37 ⟨v555, rfl, ho0, hb⟩; refine ⟨_, rfl, ?_⟩; have HO556 := Aside0.mk (Kd.S_lower ho0 (Zm hB_)); replace BK543 := Aside0.mk (Zg (bq_ BK543.out) hb); replace HB := Aside0.mk (Zh hB_ hb); (try clear hb); (try clear ho0); obtain ⟨hcz38_0, hcz38_1, hfz38_0, hfz38_1⟩ := c2_ BK543.out; obtain ⟨Ao39, co39, eo39⟩ := ZN HO556.out; subst eo39))
      refine bodyPost_ret (results_ct rfl _ _ gb543 27 #[.int .i64 t553, .slice Ao39 t554.length co39] (0, 0) _ rfl (by (with_reducible repeat (first | refine Ze ?_ _ | refine Zf ?_ | refine Zd ?_ _)); refine ZB (cs := #[.int .i64 t553, .slice none 0 0]) ?_ 1 _ rfl; (with_reducible repeat (first | refine Ze ?_ _ | refine Zf ?_ | refine Zd ?_ _)); refine ZB (cs := #[.int .i64 x544000_2, .slice none 0 0]) ?_ 0 _ rfl; (with_reducible repeat (first | refine Ze ?_ _ | refine Zf ?_ | refine Zd ?_ _)); exact BK543.out) Try.underlying27 rfl (by kernel_rfl)) rfl ?_
      exact ⟨_, er_, by (with_reducible repeat (first | apply Zs | apply Zr | apply Zp)); exact Zt (Zq (p := ⟨gb543, 1, none⟩) (Zq (p := ⟨gb543, 0, none⟩) (Zv HO556.out BK543.out (by decide)) (fun _ hk => hk.2) (.int .i64 t553)) (fun _ hk => hk.2) (.slice Ao39 t554.length co39)) (fun _ hk => trivial), hB_⟩
     rw [if_neg c22] at H
     have c22b0 : decide (x25_2 < (l1.length : Int)) = false := decide_eq_false c22
     clear c22
     obtain ⟨y561, hy561⟩ : ∃ y_ : List (List Int), y_ = (([] : List (List Int))) := ⟨_, rfl⟩
     replace H : (impl_Renamed.l1 k2 l1 l0_1 (l0_1.length : Int) 0 a0_0 y561) = some (r1, r2, r3) := hy_ hy561 H
     have Ny561 := Aside0.mk hy561
     clear hy561
     have H' := Aside0.mk H
     clear H
     have hnb52 := NB542_543.out
     have hnc52 := NB543_542.out
     obtain ⟨hcz53_0, hcz53_1, hfz53_0, hfz53_1⟩ := c2_ BK542.out
     go_wp2_with (first | ((with_reducible refine ZA (N := 46) rfl ?_); (try (refine gate_guard (by rfl) ?_; dsimp only)); refine Kd.S_lit (Kd.slice 3 (Kd.int .i64)) _ 31 ?hg (N := 46) ?hd (xs := ([] : List (List Int))) (inner := []) (ok := fun _ => True) (okp := fun _ => True) ?hr ?hp (fun _ hk => hk) trivial (Below.refl _ _) (Nat.le_refl _) (by simp) ?_; (case hd => rfl); (case hg => rfl); (case hr => first | (go_simp; done) | (go_simp; rfl)); (case hp => exact (Reps.none _ _)); intro v562 w54 ho55 hb hg_ hnew_; clear hg_ hnew_; (first | rw [← Ny561.out] at ho55 | (simp only [Int.reduceToNat] at ho55; rw [← Ny561.out] at ho55)); have HO563 := Aside0.mk (Kd.S_lower ho55 (Zm hB_)); replace BK542 := Aside0.mk (Zg (bq_ BK542.out) hb); replace BK543 := Aside0.mk (Zg (bq_ BK543.out) hb); replace HB := Aside0.mk (Zh hB_ hb); clear hb ho55; obtain ⟨Ao56, co56, eo56⟩ := ZN HO563.out; subst eo56) | ((with_reducible refine ZA (N := 8) rfl ?_); (try (refine gate_guard (by rfl) ?_; dsimp only)); refine ZC ?hg (N := 8) ?hd (cs := #[.int .i64 0, .slice none 0 0]) (t := 27) ?hr ?_; (case hd => rfl); (case hg => rfl); (case hr => first | (go_simp; done) | (go_simp; rfl)); intro gb564 hg w57 hbox hb; replace HO563 := Aside0.mk (Zz (rS_ HO563.out) hb); have BK564 := Aside0.mk (hbox); have GW564 := Aside0.mk ((hz_ hg : w.heap.size ≤ gb564)); have GE564 := Aside0.mk ((hz_ hg : w.heap.size ≤ gb564)); replace HB := Aside0.mk (Zh hB_ hb); have NB542_564 := Aside0.mk ((by rw [hg]; exact Nat.ne_of_lt (ZS (bq_ BK542.out)) : gb542 ≠ gb564)); have NB564_542 := Aside0.mk ((by rw [hg]; exact Nat.ne_of_gt (ZS (bq_ BK542.out)) : gb564 ≠ gb542)); replace BK542 := Aside0.mk (Zg (bq_ BK542.out) hb); have NB543_564 := Aside0.mk ((by rw [hg]; exact Nat.ne_of_lt (ZS (bq_ BK543.out)) : gb543 ≠ gb564)); have NB564_543 := Aside0.mk ((by rw [hg]; exact Nat.ne_of_gt (ZS (bq_ BK543.out)) : gb564 ≠ gb543)); replace BK543 := Aside0.mk (Zg (bq_ BK543.out) hb); clear hb hbox hg; have hnb58 := NB564_542.out; have hnc58 := NB542_564.out; have hnb59 := NB564_543.out; have hnc59 := NB543_564.out; obtain ⟨hcz60_0, hcz60_1, hfz60_0, hfz60_1⟩ := c2_ BK564.out; obtain ⟨hcz61_0, hcz61_1, hfz61_0, hfz61_1⟩ := c2_ BK542.out))
     go_loopg [51] k2 (fun kq v51 w' => ∃ (x51_3 : Int) (x565001_3 : List (List Int)) (u565001 : Value), v51 = .int .i64 x51_3 ∧ Aside0 (impl_Renamed.l1 kq l1 l0_1 (l0_1.length : Int) x51_3 a0_0 x565001_3 = some (r1, r2, r3)) ∧ Aside0 (kq ≤ k2) ∧ Aside0 (Kd.S (Kd.slice 3 (Kd.int .i64)) 31 w' w.heap.size (fun _ => True) u565001 x565001_3) ∧ Aside0 (w'.heap[gb543]? = some (.cells #[.int .i64 x544000_2, (.slice none 0 0)] 27 (0, 0))) ∧ Aside0 (w'.heap[gb564]? = some (.cells #[.int .i64 a0_0, u565001] 27 (0, 0))) ∧ Aside0 (Below w.heap.size w w'))
     case atStart => exact ⟨(0), (y561), (.slice Ao56 y561.length co56), sm_, H', ⟨Nat.le_refl _⟩, ⟨by (with_reducible repeat (first | apply Zs | apply Zr | apply Zp)); exact Zt (Zq (p := ⟨gb564, 1, none⟩) (Zq (p := ⟨gb564, 0, none⟩) (Zv HO563.out BK564.out (by decide)) (fun _ hk => hk.2) (.int .i64 a0_0)) (fun _ hk => hk.2) (.slice Ao56 y561.length co56)) (fun _ hk => trivial)⟩, ⟨by (with_reducible repeat (first | refine Ze ?_ _ | refine Zf ?_ | refine Zd ?_ _)); refine ZG ?_ NB543_564.out _; (with_reducible repeat (first | refine Ze ?_ _ | refine Zf ?_ | refine Zd ?_ _)); refine ZG ?_ NB543_564.out _; (with_reducible repeat (first | refine Ze ?_ _ | refine Zf ?_ | refine Zd ?_ _)); exact BK543.out⟩, ⟨by (with_reducible repeat (first | refine Ze ?_ _ | refine Zf ?_ | refine Zd ?_ _)); refine ZB (cs := #[.int .i64 a0_0, .slice none 0 0]) ?_ 1 _ rfl; (with_reducible repeat (first | refine Ze ?_ _ | refine Zf ?_ | refine Zd ?_ _)); refine ZB (cs := #[.int .i64 0, .slice none 0 0]) ?_ 0 _ rfl; (with_reducible repeat (first | refine Ze ?_ _ | refine Zf ?_ | refine Zd ?_ _)); exact BK564.out⟩, ⟨hB_⟩⟩
     case round =>
      clear H'
      try clear c1
      try clear c2
      try clear p2
      try clear c3
      try clear c4
      try clear c5
      try clear p5
      try clear q5
      try clear hx5
      try clear c6
      try clear p6
      try clear c7
      try clear c8
      try clear c9
      try clear c12
      try clear c15
      try clear c17
      try clear c22
      try clear c22b0
      try clear c23
      try clear c23b0
      try clear c24
      try clear c24b0
      try clear c26
      try clear c27
      try clear c27b0
      try clear c28
      try clear c28b0
      try clear c28b1
      try clear c30
      try clear c32
      try clear c40
      try clear c45
      try clear c48
      try clear c52
      try clear p54
      try clear q54
      try clear hx54
      try clear c58
      try clear c59
      try clear c61
      try clear hcz11_0
      try clear hcz11_1
      try clear hcz13_0
      try clear hcz13_1
      try clear hcz18_0
      try clear hcz18_1
      try clear hcz20_0
      try clear hcz20_1
      try clear hcz33_0
      try clear hcz33_1
      try clear hcz36_0
      try clear hcz36_1
      try clear hcz38_0
      try clear hcz38_1
      try clear hcz41_0
      try clear hcz41_1
      try clear hcz46_0
      try clear hcz46_1
      try clear hcz48_0
      try clear hcz48_1
      try clear hcz50_0
      try clear hcz50_1
      try clear hcz53_0
      try clear hcz53_1
      try clear hcz60_0
      try clear hcz60_1
      try clear hcz61_0
      try clear hcz61_1
      try clear hcz9_0
      try clear hcz9_1
      try clear hfz11_0
      try clear hfz11_1
      try clear hfz13_0
      try clear hfz13_1
      try clear hfz18_0
      try clear hfz18_1
      try clear hfz20_0
      try clear hfz20_1
      try clear hfz33_0
      try clear hfz33_1
      try clear hfz36_0
      try clear hfz36_1
      try clear hfz38_0
      try clear hfz38_1
      try clear hfz41_0
      try clear hfz41_1
      try clear hfz46_0
      try clear hfz46_1
      try clear hfz48_0
      try clear hfz48_1
      try clear hfz50_0
      try clear hfz50_1
      try clear hfz53_0
      try clear hfz53_1
      try clear hfz60_0
      try clear hfz60_1
      try clear hfz61_0
      try clear hfz61_1
      try clear hfz9_0
      try clear hfz9_1
      try clear hx549_0
      try clear p2
      try clear p549
      try clear q549
      obtain ⟨x51_3, x565001_3, u565001, rfl, HA, HK3, HO_565001, BK543, BK564, HB⟩ := hrel
      cases gk with
      | zero => exact absurd HA.out (by simp [impl_Renamed.l1])
      | succ k3 =>
       have H := HA.out
       clear HA
       simp only [impl_Renamed.l1] at H
       by_cases c62 : x51_3 < (l0_1.length : Int)
       rotate_left
       ·rw [if_neg c62] at H
        have c62b0 : decide (x51_3 < (l0_1.length : Int)) = false := decide_eq_false c62
        clear c62
        obtain ⟨t576, A79, H⟩ := bd_ H
        try dsimp only at H
        simp only [Option.some.injEq, Prod.mk.injEq] at H
        obtain ⟨rfl, rfl, rfl⟩ := H
        have hnb80 := NB564_543.out
        have hnc80 := NB543_564.out
        obtain ⟨hcz81_0, hcz81_1, hfz81_0, hfz81_1⟩ := c2_ BK564.out
        obtain ⟨Ao82, co82, eo82⟩ := ZN HO_565001.out
        subst eo82
        go_wp2_with (first | (go_at_call 66; (with_reducible refine (slices_SortFunc_int_int.calls k3 (fun k_ => True) (.slice Ao82 x565001_3.length co82) x565001_3 67 t576 w _ ?side1 ?side2 A79.out).mono ?_); (case side1 => repeat (first | (with_reducible first | exact HB.out | apply Zk | apply Zi | apply Zj | refine Zc ?_ GE543.out | refine Zc ?_ GE564.out) | exact HB.out)); (case side2 => exact (Zt (ok' := fun k_ => True) (HO_565001.out) (fun _ _ => trivial))); rintro e w83 ⟨rfl, hy0, hb, hkp⟩; replace BK543 := Aside0.mk (blk_kept (bk_ BK543.out) hkp (fun hs_ => (fun e_ => (Kd.R_ne (Kd.S_R HO_565001.out) BK543.out (by decide)) e_) hs_)); replace BK564 := Aside0.mk (blk_kept (bk_ BK564.out) hkp (fun hs_ => (fun e_ => (Kd.R_ne (Kd.S_R HO_565001.out) BK564.out (by decide)) e_) hs_)); replace HO_565001 := Aside0.mk (hy0); replace HB := Aside0.mk (hb); (try clear hb); (try clear hkp); (try clear hy0); obtain ⟨hcz84_0, hcz84_1, hfz84_0, hfz84_1⟩ := c2_ BK564.out; obtain ⟨hcz85_0, hcz85_1, hfz85_0, hfz85_1⟩ := c2_ BK543.out))
        refine bodyPost_ret (results_ct rfl _ _ gb543 27 #[.int .i64 a0_0, .slice Ao82 x565001_3.length co82] (0, 0) _ rfl (by (with_reducible repeat (first | refine Ze ?_ _ | refine Zf ?_ | refine Zd ?_ _)); refine ZB (cs := #[.int .i64 a0_0, .slice none 0 0]) ?_ 1 _ rfl; (with_reducible repeat (first | refine Ze ?_ _ | refine Zf ?_ | refine Zd ?_ _)); refine ZB (cs := #[.int .i64 x544000_2, .slice none 0 0]) ?_ 0 _ rfl; (with_reducible repeat (first | refine Ze ?_ _ | refine Zf ?_ | refine Zd ?_ _)); exact BK543.out) Try.underlying27 rfl (by kernel_rfl)) rfl ?_
        exact ⟨_, er_, by (with_reducible repeat (first | apply Zs | apply Zr | apply Zp)); exact Zt (Zq (p := ⟨gb543, 1, none⟩) (Zq (p := ⟨gb543, 0, none⟩) (Zv HO_565001.out BK543.out (by decide)) (fun _ hk => hk.2) (.int .i64 a0_0)) (fun _ hk => hk.2) (.slice Ao82 x565001_3.length co82)) (fun _ hk => trivial), hB_⟩
       rw [if_pos c62] at H
       have c62b0 : decide (x51_3 < (l0_1.length : Int)) = true := decide_eq_true c62
       clear c62
       by_cases c63 : 0 ≤ x51_3
       rotate_left
       ·rw [if_neg c63] at H
        exact absurd H (by simp)
       rw [if_pos c63] at H
       have c63b0 : decide (0 ≤ x51_3) = true := decide_eq_true c63
       clear c63
       by_cases c64 : x51_3 < (l0_1.length : Int)
       rotate_left
       ·rw [if_neg c64] at H
        exact absurd H (by simp)
       rw [if_pos c64] at H
       have c64b0 : decide (x51_3 < (l0_1.length : Int)) = true := decide_eq_true c64
       clear c64
       by_cases c65 : 0 < ((rd_L2 l0_1 x51_3).length : Int)
       rotate_left
       ·rw [if_neg c65] at H
        exact absurd H (by simp)
       rw [if_pos c65] at H
       have c65b0 : decide (0 < ((rd_L2 l0_1 x51_3).length : Int)) = true := decide_eq_true c65
       have c65b1 : decide (0 < (rd_L2 l0_1 x51_3).length) = true := decide_eq_true (by omega)
       clear c65
       by_cases c66 : 0 ≤ (rd (rd_L2 l0_1 x51_3) 0)
       rotate_left
       ·rw [if_neg c66] at H
        exact absurd H (by simp)
       rw [if_pos c66] at H
       have c66b0 : decide (0 ≤ (rd (rd_L2 l0_1 x51_3) 0)) = true := decide_eq_true c66
       clear c66
       by_cases c67 : (rd (rd_L2 l0_1 x51_3) 0) < (l1.length : Int)
       rotate_left
       ·rw [if_neg c67] at H
        exact absurd H (by simp)
       rw [if_pos c67] at H
       have c67b0 : decide ((rd (rd_L2 l0_1 x51_3) 0) < (l1.length : Int)) = true := decide_eq_true c67
       clear c67
       by_cases c68 : 1 < ((rd_L2 l0_1 x51_3).length : Int)
       rotate_left
       ·rw [if_neg c68] at H
        exact absurd H (by simp)
       rw [if_pos c68] at H
       have c68b0 : decide (1 < ((rd_L2 l0_1 x51_3).length : Int)) = true := decide_eq_true c68
       have c68b1 : decide (1 < (rd_L2 l0_1 x51_3).length) = true := decide_eq_true (by omega)
       clear c68
       by_cases c69 : 0 ≤ (rd (rd_L2 l0_1 x51_3) 1)
       rotate_left
       ·rw [if_neg c69] at H
        exact absurd H (by simp)
       rw [if_pos c69] at H
       have c69b0 : decide (0 ≤ (rd (rd_L2 l0_1 x51_3) 1)) = true := decide_eq_true c69
       clear c69
       by_cases c70 : (rd (rd_L2 l0_1 x51_3) 1) < (l1.length : Int)
       rotate_left
       ·rw [if_neg c70] at H
        exact absurd H (by simp)
       rw [if_pos c70] at H
       have c70b0 : decide ((rd (rd_L2 l0_1 x51_3) 1) < (l1.length : Int)) = true := decide_eq_true c70
       clear c70
       obtain ⟨y570, hy570⟩ : ∃ y_ : List Int, y_ = (([rd l1 (rd (rd_L2 l0_1 x51_3) 0), rd l1 (rd (rd_L2 l0_1 x51_3) 1)] : List Int)) := ⟨_, rfl⟩
       replace H : (if x565001_3.length < 5864062014805 then (impl_Renamed.l1 k3 l1 l0_1 (l0_1.length : Int) (wrap64 (x51_3 + 1)) a0_0 (x565001_3 ++ [y570])) else (none)) = some (r1, r2, r3) := hy_ hy570 H
       have Ny570 := Aside0.mk hy570
       clear hy570
       by_cases c71 : x565001_3.length < 5864062014805
       rotate_left
       ·rw [if_neg c71] at H
        exact absurd H (by simp)
       rw [if_pos c71] at H
       have LMc71 := Aside0.mk c71
       clear c71
       obtain ⟨y573, hy573⟩ : ∃ y_ : List (List Int), y_ = (x565001_3 ++ [y570]) := ⟨_, rfl⟩
       replace H : (impl_Renamed.l1 k3 l1 l0_1 (l0_1.length : Int) (wrap64 (x51_3 + 1)) a0_0 y573) = some (r1, r2, r3) := hy_ hy573 H
       have Ny573 := Aside0.mk hy573
       clear hy573
       have H' := Aside0.mk H
       clear H
       have p565 : 0 ≤ (x51_3 : Int) := of_decide_eq_true as_
       have q565 : x51_3 < (l0_1.length : Int) := of_decide_eq_true as_
       obtain ⟨ad565, A565_0, c565_0, e565, hx565_0, hl565_0, hi565_0⟩ := at_L2 HR0_1.out x51_3 p565 q565
       cases e565
       replace hx565_0 := (HB.out.cell (World.block_lt_of_cell? w _ hx565_0)).trans hx565_0
       have HR565_0 := Aside0.mk hi565_0
       have HC565_0 := Aside0.mk hl565_0
       clear hi565_0 hl565_0
       replace p565 := eq_true p565
       replace q565 := eq_true q565
       try go_wp2
       replace HO_565001 := Aside0.mk (Zp HO_565001.out)
       replace BK543 := Aside0.mk (Zf BK543.out)
       replace BK564 := Aside0.mk (Zf BK564.out)
       replace HB := Aside0.mk (Zj HB.out)
       have p566 : 0 ≤ (0 : Int) := (by omega)
       have q566 : 0 < ((rd_L2 l0_1 x51_3).length : Int) := of_decide_eq_true as_
       obtain ⟨ad566, e566, hx566_0⟩ := Zx HR565_0.out 0 p566 q566
       have hw566_0 := hx566_0
       (try rw [show ((0 : Int)).toNat = 0 from rfl] at hw566_0)
       (try rw [show 0 * 1 = 0 from rfl] at hw566_0)
       (try rw [Addr.add_zero'] at hw566_0)
       cases e566
       have qi566 : (0 < (rd_L2 l0_1 x51_3).length) = True := eq_true (by omega)
       (try rw [show ((0 : Int)).toNat = 0 from rfl] at hx566_0)
       (try rw [Addr.add_zero'] at hx566_0)
       replace hx566_0 := (HB.out.cell (World.block_lt_of_cell? w _ hx566_0)).trans hx566_0
       replace p566 := eq_true p566
       replace q566 := eq_true q566
       have p567 : 0 ≤ ((rd (rd_L2 l0_1 x51_3) 0) : Int) := of_decide_eq_true as_
       have q567 : (rd (rd_L2 l0_1 x51_3) 0) < (l1.length : Int) := of_decide_eq_true as_
       obtain ⟨ad567, e567, hx567_0⟩ := Zx HR1.out (rd (rd_L2 l0_1 x51_3) 0) p567 q567
       have hw567_0 := hx567_0
       cases e567
       replace hx567_0 := (HB.out.cell (World.block_lt_of_cell? w _ hx567_0)).trans hx567_0
       replace p567 := eq_true p567
       replace q567 := eq_true q567
       have p568 : 0 ≤ (1 : Int) := (by omega)
       have q568 : 1 < ((rd_L2 l0_1 x51_3).length : Int) := of_decide_eq_true as_
       obtain ⟨ad568, e568, hx568_0⟩ := Zx HR565_0.out 1 p568 q568
       have hw568_0 := hx568_0
       (try rw [show ((1 : Int)).toNat = 1 from rfl] at hw568_0)
       (try rw [show 1 * 1 = 1 from rfl] at hw568_0)
       (try simp only [Nat.reduceMul, Nat.reduceEqDiff, Go.Addr.add, ↓reduceIte] at hw568_0)
       obtain rfl : ad566 = ad568 := (by injection e568)
       (try simp only [show (1 : Int).toNat = 1 from rfl, Nat.reduceMul, Nat.reduceEqDiff, Go.Addr.add, ↓reduceIte] at hx568_0)
       have qi568 : (1 < (rd_L2 l0_1 x51_3).length) = True := eq_true (by omega)
       (try rw [show ((1 : Int)).toNat = 1 from rfl] at hx568_0)
       replace hx568_0 := (HB.out.cell (World.block_lt_of_cell? w _ hx568_0)).trans hx568_0
       replace p568 := eq_true p568
       replace q568 := eq_true q568
       have p569 : 0 ≤ ((rd (rd_L2 l0_1 x51_3) 1) : Int) := of_decide_eq_true as_
       have q569 : (rd (rd_L2 l0_1 x51_3) 1) < (l1.length : Int) := of_decide_eq_true as_
       obtain ⟨ad569, e569, hx569_0⟩ := Zx HR1.out (rd (rd_L2 l0_1 x51_3) 1) p569 q569
       have hw569_0 := hx569_0
       obtain rfl : ad567 = ad569 := (by injection e569)
       replace hx569_0 := (HB.out.cell (World.block_lt_of_cell? w _ hx569_0)).trans hx569_0
       replace p569 := eq_true p569
       replace q569 := eq_true q569
       refine start_ (n := 19) (S := fun w' => w'.cell? ⟨gb564, 0, none⟩ = some (.int .i64 a0_0) ∧ w'.cell? ⟨gb564, 1, none⟩ = some (u565001) ∧ w'.cell? ad566 = some (.int .i64 (rd (rd_L2 l0_1 x51_3) 0)) ∧ w'.cell? (ad567.add ((rd (rd_L2 l0_1 x51_3) 0)).toNat) = some (.int .i64 (rd l1 (rd (rd_L2 l0_1 x51_3) 0))) ∧ w'.cell? ⟨ad566.block, ad566.off + 1, none⟩ = some (.int .i64 (rd (rd_L2 l0_1 x51_3) 1)) ∧ w'.cell? (ad567.add ((rd (rd_L2 l0_1 x51_3) 1)).toNat) = some (.int .i64 (rd l1 (rd (rd_L2 l0_1 x51_3) 1)))) (ds := [18]) (m_ 19 0) (by kernel_rfl) rfl rfl ⟨(Za BK564.out 0).trans rfl, (Za BK564.out 1).trans rfl, ((HB.out.cell (World.block_lt_of_cell? w _ hw566_0)).trans hw566_0), ((HB.out.cell (World.block_lt_of_cell? w _ hw567_0)).trans hw567_0), ((HB.out.cell (World.block_lt_of_cell? w _ hw568_0)).trans hw568_0), ((HB.out.cell (World.block_lt_of_cell? w _ hw569_0)).trans hw569_0)⟩ (fun hHeld => ?_); refine with_tabW impl_Renamed.tab13 impl_Renamed.bits13 (fun HT_ HW_ => ?_)
       generalize wr.drew = w72 at HO_565001 BK543 BK564 HB hx566_0 hx567_0 hx568_0 hx569_0 hHeld ⊢
       refine pu_ 0 55 (m_ 19 1) ?_
       refine pu_ 2 57 (m_ 19 5) ?_
       refine pu_ 3 58 (m_ 19 13) ?_
       refine pu_ 4 59 (m_ 19 29) ?_
       refine pu_ 8 63 (m_ 19 285) ?_
       refine pu_ 9 64 (m_ 19 797) ?_
       refine pu_ 10 65 (m_ 19 1821) ?_
       refine tk6_ 1 56 (m_ 19 1823) hHeld ?_
       refine tk6_ 5 60 (m_ 19 1855) hHeld ?_
       refine pu_ 6 61 (m_ 19 1919) ?_
       refine tk6_ 7 62 (m_ 19 2047) hHeld ?_
       refine tk6_ 11 66 (m_ 19 4095) hHeld ?_
       refine pu_ 12 67 (m_ 19 8191) ?_
       refine tk6_ 13 68 (m_ 19 16383) hHeld ?_
       refine on_ 14 69 (m_ 19 32767) (fun K hK => ?_)
       refine Kd.R_lit_step (Kd.int .i64) _ 3 ?hg (N := 69) ?hd (xs := ([rd l1 (rd (rd_L2 l0_1 x51_3) 0), rd l1 (rd (rd_L2 l0_1 x51_3) 1)] : List Int)) (inner := [.int .i64 (rd l1 (rd (rd_L2 l0_1 x51_3) 0)), .int .i64 (rd l1 (rd (rd_L2 l0_1 x51_3) 1))]) (ok := fun _ => True) (okp := fun _ => True) ?hr ?hp (fun _ hk => hk) trivial (Below.refl _ _) (Nat.le_refl _) (by simp) ?_; (case hd => rfl); (case hg => rfl); (case hr => first | (go_simp; done) | (go_simp; rfl)); (case hp => exact (Reps.one (show Kd.M (Kd.int .i64) _ _ _ (rd l1 (rd (rd_L2 l0_1 x51_3) 0)) [.int .i64 (rd l1 (rd (rd_L2 l0_1 x51_3) 0))] from rfl) (Reps.one (show Kd.M (Kd.int .i64) _ _ _ (rd l1 (rd (rd_L2 l0_1 x51_3) 1)) [.int .i64 (rd l1 (rd (rd_L2 l0_1 x51_3) 1))] from rfl) (Reps.none _ _))))
       intro v571 w73 ho74 hb hg_ hnew_
       clear hg_ hnew_
       (first | rw [← Ny570.out] at ho74 | (simp only [Int.reduceToNat] at ho74; rw [← Ny570.out] at ho74))
       replace HO_565001 := Aside0.mk (Kd.S_elder' (rS_ HO_565001.out) (Kd.R_base ho74) hb)
       have HO572 := Aside0.mk (Kd.R_lower ho74 (Zm hB_))
       replace BK543 := Aside0.mk (Zg (bq_ BK543.out) hb)
       replace BK564 := Aside0.mk (Zg (bq_ BK564.out) hb)
       replace HB := Aside0.mk (Zh hB_ hb)
       clear hb ho74
       obtain ⟨Ao76, co76, eo76⟩ := Kd.R_slice HO572.out
       (first | subst eo76 | (injection eo76 with f1_ f2_ f3_; have f4_ := f1_.symm; have f5_ := f3_.symm; clear f1_ f2_ f3_; subst f4_; subst f5_))
       refine hK.out _ _ ⟨(Za BK564.out 0).trans rfl, (Za BK564.out 1).trans rfl, ((HB.out.cell (World.block_lt_of_cell? w _ hw566_0)).trans hw566_0), ((HB.out.cell (World.block_lt_of_cell? w _ hw567_0)).trans hw567_0), ((HB.out.cell (World.block_lt_of_cell? w _ hw568_0)).trans hw568_0), ((HB.out.cell (World.block_lt_of_cell? w _ hw569_0)).trans hw569_0)⟩ (fun hHeld => ?_)
       clear hK K
       refine no_ 69 ?_
       refine on_ 15 70 (m_ 19 65535) (fun K hK => ?_)
       refine value_ (w1 := ?_) (v := ?_) (by rfl) rfl ?_ ?_
       rotate_left 2
       ·go_simp
        constructor
        ·rfl
        rfl
       refine hK.out _ _ ⟨(Za (Zd BK564.out _) 0).trans rfl, (Za (Zd BK564.out _) 1).trans rfl, (World.cell?_alloc_lt _ _ _ (World.block_lt_of_cell? _ _ (((HB.out.cell (World.block_lt_of_cell? w _ hw566_0)).trans hw566_0)))).trans (((HB.out.cell (World.block_lt_of_cell? w _ hw566_0)).trans hw566_0)), (World.cell?_alloc_lt _ _ _ (World.block_lt_of_cell? _ _ (((HB.out.cell (World.block_lt_of_cell? w _ hw567_0)).trans hw567_0)))).trans (((HB.out.cell (World.block_lt_of_cell? w _ hw567_0)).trans hw567_0)), (World.cell?_alloc_lt _ _ _ (World.block_lt_of_cell? _ _ (((HB.out.cell (World.block_lt_of_cell? w _ hw568_0)).trans hw568_0)))).trans (((HB.out.cell (World.block_lt_of_cell? w _ hw568_0)).trans hw568_0)), (World.cell?_alloc_lt _ _ _ (World.block_lt_of_cell? _ _ (((HB.out.cell (World.block_lt_of_cell? w _ hw569_0)).trans hw569_0)))).trans (((HB.out.cell (World.block_lt_of_cell? w _ hw569_0)).trans hw569_0))⟩ (fun hHeld => ?_)
       clear hK K
       refine no_ 70 ?_
       refine on_ 16 71 (m_ 19 131071) (fun K hK => ?_)
       refine Kd.S_append_step (Kd.slice 3 (Kd.int .i64)) (w0 := w) w.heap.size (by rfl) (.tmp 56) (.tmp 70) 22 31 (.slice none 0 0) 24 rfl Try.underlying22 info31 rfl (by decide) (by omega) u565001 x565001_3 y570 [.slice Ao76 y570.length co76] (fun _ => True) (fun k_ => some k_ = (.slice Ao76 y570.length co76 : Value).ownBlock) rfl rfl ?aP (fun k_ hk_ => ((Zw (ok' := fun k_ => ((fun _ => True)) k_ ∧ some k_ ≠ (u565001 : Value).ownBlock) (Kd.R_apart' (HO572.out) (Kd.S_typed HO_565001.out) (by decide)) (fun k_ hk => ⟨trivial, hk.2⟩))).1 k_ hk_.symm) ?aF ?aO ?aB ?aS ?aL ?_
       (case aP => exact Kd.M_row (Zw (Kd.R_tight rfl (Zw (ok' := fun k_ => ((fun _ => True)) k_ ∧ some k_ ≠ (u565001 : Value).ownBlock) (Kd.R_apart' (HO572.out) (Kd.S_typed HO_565001.out) (by decide)) (fun k_ hk => ⟨trivial, hk.2⟩))) (fun _ h_ => h_)))
       (case aB => exact hB_)
       (case aF => exact (fun _ _ => trivial))
       (case aO => exact (by (with_reducible repeat (first | apply Zs | apply Zr | apply Zp)); exact Zt HO_565001.out (fun k_ hk => ⟨trivial, fun e_ => hk.2 e_⟩)))
       (case aS => exact (Zm hB_))
       (case aL => have := LMc71.out; omega)
       intro v574 w75 ho hb hg hat
       rw [← Ny573.out] at ho
       have n0_ := Aside0.mk (ZT (bq_ BK543.out) hg (Kd.S_ne HO_565001.out BK543.out (by decide)))
       have n1_ := Aside0.mk (ZT (bq_ BK564.out) hg (Kd.S_ne HO_565001.out BK564.out (by decide)))
       have n2_ := Aside0.mk (hb)
       have n3_ := Aside0.mk (ho)
       clear BK543
       clear BK564
       clear HB
       clear HO_565001
       clear HO572
       have BK543 := n0_
       have BK564 := n1_
       have HB := n2_
       have HO575 := n3_
       clear n0_ n1_ n2_ n3_
       clear ho hb hg hat
       obtain ⟨Ao77, co77, eo77⟩ := ZN HO575.out
       (first | subst eo77 | (injection eo77 with f1_ f2_ f3_; have f4_ := f1_.symm; have f5_ := f3_.symm; clear f1_ f2_ f3_; subst f4_; subst f5_))
       refine hK.out _ _ ⟨(Za BK564.out 0).trans rfl, (Za BK564.out 1).trans rfl, ((HB.out.cell (World.block_lt_of_cell? w _ hw566_0)).trans hw566_0), ((HB.out.cell (World.block_lt_of_cell? w _ hw567_0)).trans hw567_0), ((HB.out.cell (World.block_lt_of_cell? w _ hw568_0)).trans hw568_0), ((HB.out.cell (World.block_lt_of_cell? w _ hw569_0)).trans hw569_0)⟩ (fun hHeld => ?_)
       clear hK K
       refine no_ 71 ?_
       refine pu_ 17 72 (m_ 19 262143) ?_
       refine last_ (i := 18) (N := none) (m_ 19 524287) rfl rfl (one_of HT_.out (by kernel_rfl)) (by decide) (fun K hK => ?_)
       have hs78 : w75.cell? ⟨gb564, 1, none⟩ = some (u565001) := (Za BK564.out 1).trans rfl
       have hfs78 := Zb BK564.out 1
       have hns78_0 := NB543_564.out
       have hms78_0 := NB564_543.out
       refine skip_ (w1 := ?_) (by rfl) rfl ?_ ?_
       rotate_left
       ·go_simp
        rfl
       refine hK.out _ _ ?_
       clear hK K
       refine done_ (done_of HT_.out (by kernel_rfl)) ?_
       try go_wp2
       go_roundg k3
       case measure => have := HJ2.out; have := HK2.out; have := HK3.out; omega
       case rel => exact ⟨(wrap64 (x51_3 + 1)), (y573), (.slice Ao77 y573.length co77), sm_, H', ⟨by have := HJ2.out; have := HK2.out; have := HK3.out; omega⟩, ⟨by (with_reducible repeat (first | apply Zs | apply Zr | apply Zp)); exact Zt (Zq (p := ⟨gb564, 1, none⟩) (Zv HO575.out BK564.out (by decide)) (fun _ hk => hk.2) (.slice Ao77 y573.length co77)) (fun _ hk => trivial)⟩, ⟨by (with_reducible repeat (first | refine Ze ?_ _ | refine Zf ?_ | refine Zd ?_ _)); refine ZG ?_ NB543_564.out _; (with_reducible repeat (first | refine Ze ?_ _ | refine Zf ?_ | refine Zd ?_ _)); exact BK543.out⟩, ⟨by (with_reducible repeat (first | refine Ze ?_ _ | refine Zf ?_ | refine Zd ?_ _)); refine ZB (cs := #[.int .i64 a0_0, u565001]) ?_ 1 _ rfl; (with_reducible repeat (first | refine Ze ?_ _ | refine Zf ?_ | refine Zd ?_ _)); exact BK564.out⟩, ⟨hB_⟩⟩

end Go.Proofs.Ytdlobolnajcfnaa.PFnDisputes
