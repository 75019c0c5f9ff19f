-- Written by a program of this session (hooks of mine on the print): Lean checks it.
import Derived.Test.YtdlobolnajcfnaaPFnExactRenamedx0
import Derived.Test.YtdlobolnajcfnaaPFnExactRenamedx1
import Derived.Test.YtdlobolnajcfnaaPFnExactRenamedx2
import Derived.Test.YtdlobolnajcfnaaPFnExactRenamedx5
import Derived.Test.YtdlobolnajcfnaaPFnExactRenamedx9
import Derived.Test.YtdlobolnajcfnaaPFnExactRenamedx10
namespace Go.Proofs.Ytdlobolnajcfnaa.PFnExactRenamed
open Go.RowKit Go.Proofs.YtdlobolnajcfnaaW.PrintWords Go.Proofs.YtdlobolnajcfnaaW.PrintLast Go.Proofs.YtdlobolnajcfnaaW.PrintMore
attribute [local go_sem] max2_int min2_int max_two min_two max_three min_three max_four min_four   -- for this text's walks alone
set_option linter.unusedVariables false
set_option linter.unusedSimpArgs false

/-! ### laws_FnExactRenamed: function 8 -/
mutual
def laws_FnExactRenamed.j0 : Nat → List Int → Bool → List Int → Bool → Bool → Int → List (List Int) → Int → List (List Int) → Int → List (List Int) → Int → List (List Int) → Option (Bool)
 | 0, _, _, _, _, _, _, _, _, _, _, _, _, _ => none
 | k + 1, x1, x7, x9, x11, x51, x346000, x346001, x360000, x360001, x365000, x365001, x374000, x374001 => if x51 = true then (some false) else ((laws_toGraph.f k x346000 x346001).bind fun bt375 => ((laws_eqGraph.f k x365000 x365001 bt375.1 bt375.2).bind fun t379 => (if t379 = true then ((laws_toIntS.f k x1).bind fun t380 => ((laws_eqIntS.f k x9 t380).bind fun t383 => (if t383 = true then ((laws_markGraph.f k x365000 x365001 1).bind fun bt384 => ((laws_markIntS.f k x9 bt384.1).bind fun bt386 => (if bt386.1 < 0 then (laws_FnExactRenamed.j1 k x1 x7 true x346000 x346001 x360000 x360001 x374000 x374001) else ((laws_eqGraph.f k x374000 x374001 x360000 x360001).bind fun t388 => (if t388 = true then (laws_FnExactRenamed.j1 k x1 x7 (x11 != x7) x346000 x346001 x360000 x360001 x374000 x374001) else (laws_FnExactRenamed.j1 k x1 x7 true x346000 x346001 x360000 x360001 x374000 x374001)))))) else (some false)))) else (some false))))
def laws_FnExactRenamed.j1 : Nat → List Int → Bool → Bool → Int → List (List Int) → Int → List (List Int) → Int → List (List Int) → Option (Bool)
 | 0, _, _, _, _, _, _, _, _, _ => none
 | k + 1, x1, x7, x80, x346000, x346001, x360000, x360001, x374000, x374001 => if x80 = true then (some false) else ((laws_markGraph.f k x374000 x374001 1).bind fun bt389 => ((laws_heldGraph.f k x374000 bt389.2 1).bind fun t391 => (if t391 < 0 then (some false) else (if t391 = bt389.1 then ((laws_toGraph.f k x346000 x346001).bind fun bt392 => ((laws_toIntS.f k x1).bind fun t396 => ((impl_Renamed.f k bt392.1 bt392.2 t396).bind fun bt399 => ((laws_eqGraph.f k bt399.1 bt399.2.1 x360000 x360001).bind fun t405 => (if t405 = true then (laws_FnExactRenamed.j2 k bt389.1 (bt399.2.2 != x7) x374000 bt389.2) else (laws_FnExactRenamed.j2 k bt389.1 true x374000 bt389.2)))))) else (some false)))))
def laws_FnExactRenamed.j2 : Nat → Int → Bool → Int → List (List Int) → Option (Bool)
 | 0, _, _, _, _ => none
 | k + 1, x13, x108, x374000, x374001 => if x108 = true then (some false) else ((laws_heldGraph.f k x374000 x374001 1).bind fun t406 => (if t406 < 0 then (some false) else (if t406 = x13 then (some true) else (some false))))
end
def laws_FnExactRenamed.f (k : Nat) (a0_0 : Int) (l0_1 : List (List Int)) (l1 : List Int) : Option (Bool) := if (l1.length : Int) > 1048576 then (some true) else ((laws_szGraph.f k a0_0 l0_1 1048576).bind fun t346 => (if t346 < 0 then (some true) else ((laws_toGraph.f k a0_0 l0_1).bind fun bt347 => ((laws_toIntS.f k l1).bind fun t351 => ((spec_Renamed.f k bt347.1 bt347.2 t351).bind fun bt354 => ((laws_toGraph.f k a0_0 l0_1).bind fun bt360 => ((laws_toIntS.f k l1).bind fun t365 => ((impl_Renamed.f k bt360.1 bt360.2 t365).bind fun bt368 => ((laws_eqGraph.f k bt368.1 bt368.2.1 bt354.1 bt354.2.1).bind fun t374 => (if t374 = true then (laws_FnExactRenamed.j0 k l1 bt354.2.2 t365 bt368.2.2 (bt368.2.2 != bt354.2.2) a0_0 l0_1 bt354.1 bt354.2.1 bt360.1 bt360.2 bt368.1 bt368.2.1) else (laws_FnExactRenamed.j0 k l1 bt354.2.2 t365 bt368.2.2 true a0_0 l0_1 bt354.1 bt354.2.1 bt360.1 bt360.2 bt368.1 bt368.2.1)))))))))))
theorem laws_FnExactRenamed.mono_l : ∀ k, (∀ y0 y1 y2 y3 y4 y5 y6 y7 y8 y9 y10 y11 y12, LeO (laws_FnExactRenamed.j0 k y0 y1 y2 y3 y4 y5 y6 y7 y8 y9 y10 y11 y12) (laws_FnExactRenamed.j0 (k + 1) y0 y1 y2 y3 y4 y5 y6 y7 y8 y9 y10 y11 y12)) ∧ (∀ y0 y1 y2 y3 y4 y5 y6 y7 y8, LeO (laws_FnExactRenamed.j1 k y0 y1 y2 y3 y4 y5 y6 y7 y8) (laws_FnExactRenamed.j1 (k + 1) y0 y1 y2 y3 y4 y5 y6 y7 y8)) ∧ (∀ y0 y1 y2 y3, LeO (laws_FnExactRenamed.j2 k y0 y1 y2 y3) (laws_FnExactRenamed.j2 (k + 1) y0 y1 y2 y3))
 | 0 => ⟨fun _ _ _ _ _ _ _ _ _ _ _ _ _ r h => by simp [laws_FnExactRenamed.j0] at h, fun _ _ _ _ _ _ _ _ _ r h => by simp [laws_FnExactRenamed.j1] at h, fun _ _ _ _ r h => by simp [laws_FnExactRenamed.j2] at h⟩
 | k + 1 => by
  obtain ⟨ih0, ih1, ih2⟩ := laws_FnExactRenamed.mono_l k
  refine ⟨?_, ?_, ?_⟩
  ·intro y0 y1 y2 y3 y4 y5 y6 y7 y8 y9 y10 y11 y12
   unfold laws_FnExactRenamed.j0
   repeat' first
   | (with_reducible exact ih0 _ _ _ _ _ _ _ _ _ _ _ _ _)
   | (with_reducible exact ih1 _ _ _ _ _ _ _ _ _)
   | (with_reducible exact ih2 _ _ _ _)
   | (with_reducible exact impl_Renamed.mono _ _ _ _)
   | (with_reducible exact laws_eqGraph.mono _ _ _ _ _)
   | (with_reducible exact laws_eqIntS.mono _ _ _)
   | (with_reducible exact laws_heldGraph.mono _ _ _ _)
   | (with_reducible exact laws_markGraph.mono _ _ _ _)
   | (with_reducible exact laws_markIntS.mono _ _ _)
   | (with_reducible exact laws_szGraph.mono _ _ _ _)
   | (with_reducible exact laws_toGraph.mono _ _ _)
   | (with_reducible exact laws_toIntS.mono _ _)
   | (with_reducible exact spec_Renamed.mono _ _ _ _)
   | (with_reducible exact LeO.refl _)
   | (with_reducible exact ZE _)
   | (with_reducible refine ZH ?_ ?_)
   | (with_reducible refine ZD ?_ (fun _ => ?_))
   | exact ih0 _ _ _ _ _ _ _ _ _ _ _ _ _
   | exact ih1 _ _ _ _ _ _ _ _ _
   | exact ih2 _ _ _ _
   | exact impl_Renamed.mono _ _ _ _
   | exact laws_eqGraph.mono _ _ _ _ _
   | exact laws_eqIntS.mono _ _ _
   | exact laws_heldGraph.mono _ _ _ _
   | exact laws_markGraph.mono _ _ _ _
   | exact laws_markIntS.mono _ _ _
   | exact laws_szGraph.mono _ _ _ _
   | exact laws_toGraph.mono _ _ _
   | exact laws_toIntS.mono _ _
   | exact spec_Renamed.mono _ _ _ _
   | exact ZE _
   | refine ZH ?_ ?_
   | refine ZD ?_ (fun _ => ?_)
  ·intro y0 y1 y2 y3 y4 y5 y6 y7 y8
   unfold laws_FnExactRenamed.j1
   repeat' first
   | (with_reducible exact ih0 _ _ _ _ _ _ _ _ _ _ _ _ _)
   | (with_reducible exact ih1 _ _ _ _ _ _ _ _ _)
   | (with_reducible exact ih2 _ _ _ _)
   | (with_reducible exact impl_Renamed.mono _ _ _ _)
   | (with_reducible exact laws_eqGraph.mono _ _ _ _ _)
   | (with_reducible exact laws_eqIntS.mono _ _ _)
   | (with_reducible exact laws_heldGraph.mono _ _ _ _)
   | (with_reducible exact laws_markGraph.mono _ _ _ _)
   | (with_reducible exact laws_markIntS.mono _ _ _)
   | (with_reducible exact laws_szGraph.mono _ _ _ _)
   | (with_reducible exact laws_toGraph.mono _ _ _)
   | (with_reducible exact laws_toIntS.mono _ _)
   | (with_reducible exact spec_Renamed.mono _ _ _ _)
   | (with_reducible exact LeO.refl _)
   | (with_reducible exact ZE _)
   | (with_reducible refine ZH ?_ ?_)
   | (with_reducible refine ZD ?_ (fun _ => ?_))
   | exact ih0 _ _ _ _ _ _ _ _ _ _ _ _ _
   | exact ih1 _ _ _ _ _ _ _ _ _
   | exact ih2 _ _ _ _
   | exact impl_Renamed.mono _ _ _ _
   | exact laws_eqGraph.mono _ _ _ _ _
   | exact laws_eqIntS.mono _ _ _
   | exact laws_heldGraph.mono _ _ _ _
   | exact laws_markGraph.mono _ _ _ _
   | exact laws_markIntS.mono _ _ _
   | exact laws_szGraph.mono _ _ _ _
   | exact laws_toGraph.mono _ _ _
   | exact laws_toIntS.mono _ _
   | exact spec_Renamed.mono _ _ _ _
   | exact ZE _
   | refine ZH ?_ ?_
   | refine ZD ?_ (fun _ => ?_)
  ·intro y0 y1 y2 y3
   unfold laws_FnExactRenamed.j2
   repeat' first
   | (with_reducible exact ih0 _ _ _ _ _ _ _ _ _ _ _ _ _)
   | (with_reducible exact ih1 _ _ _ _ _ _ _ _ _)
   | (with_reducible exact ih2 _ _ _ _)
   | (with_reducible exact impl_Renamed.mono _ _ _ _)
   | (with_reducible exact laws_eqGraph.mono _ _ _ _ _)
   | (with_reducible exact laws_eqIntS.mono _ _ _)
   | (with_reducible exact laws_heldGraph.mono _ _ _ _)
   | (with_reducible exact laws_markGraph.mono _ _ _ _)
   | (with_reducible exact laws_markIntS.mono _ _ _)
   | (with_reducible exact laws_szGraph.mono _ _ _ _)
   | (with_reducible exact laws_toGraph.mono _ _ _)
   | (with_reducible exact laws_toIntS.mono _ _)
   | (with_reducible exact spec_Renamed.mono _ _ _ _)
   | (with_reducible exact LeO.refl _)
   | (with_reducible exact ZE _)
   | (with_reducible refine ZH ?_ ?_)
   | (with_reducible refine ZD ?_ (fun _ => ?_))
   | exact ih0 _ _ _ _ _ _ _ _ _ _ _ _ _
   | exact ih1 _ _ _ _ _ _ _ _ _
   | exact ih2 _ _ _ _
   | exact impl_Renamed.mono _ _ _ _
   | exact laws_eqGraph.mono _ _ _ _ _
   | exact laws_eqIntS.mono _ _ _
   | exact laws_heldGraph.mono _ _ _ _
   | exact laws_markGraph.mono _ _ _ _
   | exact laws_markIntS.mono _ _ _
   | exact laws_szGraph.mono _ _ _ _
   | exact laws_toGraph.mono _ _ _
   | exact laws_toIntS.mono _ _
   | exact spec_Renamed.mono _ _ _ _
   | exact ZE _
   | refine ZH ?_ ?_
   | refine ZD ?_ (fun _ => ?_)
theorem laws_FnExactRenamed.mono : ∀ a0 a1 a2 k, LeO (laws_FnExactRenamed.f k a0 a1 a2) (laws_FnExactRenamed.f (k + 1) a0 a1 a2) := by
 intro a0 a1 a2 k
 obtain ⟨ih0, ih1, ih2⟩ := laws_FnExactRenamed.mono_l k
 unfold laws_FnExactRenamed.f
 repeat' first
   | (with_reducible exact ih0 _ _ _ _ _ _ _ _ _ _ _ _ _)
   | (with_reducible exact ih1 _ _ _ _ _ _ _ _ _)
   | (with_reducible exact ih2 _ _ _ _)
   | (with_reducible exact impl_Renamed.mono _ _ _ _)
   | (with_reducible exact laws_eqGraph.mono _ _ _ _ _)
   | (with_reducible exact laws_eqIntS.mono _ _ _)
   | (with_reducible exact laws_heldGraph.mono _ _ _ _)
   | (with_reducible exact laws_markGraph.mono _ _ _ _)
   | (with_reducible exact laws_markIntS.mono _ _ _)
   | (with_reducible exact laws_szGraph.mono _ _ _ _)
   | (with_reducible exact laws_toGraph.mono _ _ _)
   | (with_reducible exact laws_toIntS.mono _ _)
   | (with_reducible exact spec_Renamed.mono _ _ _ _)
   | (with_reducible exact LeO.refl _)
   | (with_reducible exact ZE _)
   | (with_reducible refine ZH ?_ ?_)
   | (with_reducible refine ZD ?_ (fun _ => ?_))
   | exact ih0 _ _ _ _ _ _ _ _ _ _ _ _ _
   | exact ih1 _ _ _ _ _ _ _ _ _
   | exact ih2 _ _ _ _
   | exact impl_Renamed.mono _ _ _ _
   | exact laws_eqGraph.mono _ _ _ _ _
   | exact laws_eqIntS.mono _ _ _
   | exact laws_heldGraph.mono _ _ _ _
   | exact laws_markGraph.mono _ _ _ _
   | exact laws_markIntS.mono _ _ _
   | exact laws_szGraph.mono _ _ _ _
   | exact laws_toGraph.mono _ _ _
   | exact laws_toIntS.mono _ _
   | exact spec_Renamed.mono _ _ _ _
   | exact ZE _
   | refine ZH ?_ ?_
   | refine ZD ?_ (fun _ => ?_)
set_option maxHeartbeats 8000000 in
set_option maxRecDepth 100000 in
theorem laws_FnExactRenamed.calls (k : Nat) (a0_0 : Int) (A0_1 : Option Addr) (c0_1 : Nat) (l0_1 : List (List Int)) (A1 : Option Addr) (c1 : Nat) (l1 : List Int) (r : Bool) (w : World) (hr0_1 : Kd.C (Kd.slice 3 (Kd.int .i64)) w A0_1 l0_1.length l0_1) (hc0_1 : l0_1.length ≤ c0_1) (hr1 : Kd.C (Kd.int .i64) w A1 l1.length l1) (hc1 : l1.length ≤ c1) (h : laws_FnExactRenamed.f k a0_0 l0_1 l1 = some r) :
  Calls Try.prog 8 #[.agg #[.int .i64 a0_0, .slice A0_1 l0_1.length c0_1], .slice A1 l1.length c1] w fun e w' => e = .returned (.bool r) ∧ Below w.heap.size w w' := by
 have hu24 := Try.underlying24
 have hu27 := Try.underlying27
 have HR0_1 := Aside0.mk hr0_1
 have HC0_1 := Aside0.mk hc0_1
 clear hr0_1 hc0_1
 have HR1 := Aside0.mk hr1
 have HC1 := Aside0.mk hc1
 clear hr1 hc1
 have HB := Aside0.mk (Below.refl w.heap.size w)
 have H : (if (l1.length : Int) > 1048576 then (some true) else ((laws_szGraph.f k a0_0 l0_1 1048576).bind fun t346 => (if t346 < 0 then (some true) else ((laws_toGraph.f k a0_0 l0_1).bind fun bt347 => ((laws_toIntS.f k l1).bind fun t351 => ((spec_Renamed.f k bt347.1 bt347.2 t351).bind fun bt354 => ((laws_toGraph.f k a0_0 l0_1).bind fun bt360 => ((laws_toIntS.f k l1).bind fun t365 => ((impl_Renamed.f k bt360.1 bt360.2 t365).bind fun bt368 => ((laws_eqGraph.f k bt368.1 bt368.2.1 bt354.1 bt354.2.1).bind fun t374 => (if t374 = true then (laws_FnExactRenamed.j0 k l1 bt354.2.2 t365 bt368.2.2 (bt368.2.2 != bt354.2.2) a0_0 l0_1 bt354.1 bt354.2.1 bt360.1 bt360.2 bt368.1 bt368.2.1) else (laws_FnExactRenamed.j0 k l1 bt354.2.2 t365 bt368.2.2 true a0_0 l0_1 bt354.1 bt354.2.1 bt360.1 bt360.2 bt368.1 bt368.2.1)))))))))))) = some r := h
 clear h
 by_cases c3 : (l1.length : Int) > 1048576
 ·rw [if_pos c3] at H
  have c3b0 : decide (1048576 < (l1.length : Int)) = true := decide_eq_true c3
  have c3b1 : decide (1048576 < l1.length) = true := decide_eq_true (by omega)
  clear c3
  obtain rfl := Option.some.inj H
  go_enter Try.func8, Try.ntmps8
  go_wp2_with (first | ((with_reducible refine gate_dst (N := 2) rfl ?_); refine box_event ?hg (N := 2) ?hd (cs := #[.int .i64 a0_0, .slice A0_1 l0_1.length c0_1]) (t := 24) ?hr ?_; (case hd => rfl); (case hg => rfl); (case hr => first | (go_simp; done) | (go_simp; rfl)); intro gb345 hg w4 hbox hb; have n0_ := Aside0.mk (Zu (by repeat (first | (with_reducible first | exact HB.out | apply Zj | apply Ze | apply Zi) | exact HB.out)) hb); have n1_ := Aside0.mk (hbox); have n2_ := Aside0.mk ((by rw [hg]; exact (Zs (by repeat (first | (with_reducible first | exact HB.out | apply Zj | apply Ze | apply Zi) | exact HB.out))) : w.heap.size ≤ gb345)); have n3_ := Aside0.mk ((by rw [hg]; exact (Zs (by repeat (first | (with_reducible first | exact HB.out | apply Zj | apply Ze | apply Zi) | exact HB.out))) : w.heap.size ≤ gb345)); clear HB; have HB := n0_; have BK345 := n1_; have GW345 := n2_; have GE345 := n3_; clear n0_ n1_ n2_ n3_; clear hb hbox hg))
  all_goals go_ret
  all_goals exact ⟨by first | rfl | (simp [errW_none, errW_some] <;> rfl) | (simp [*, errW_none, errW_some] <;> rfl), by repeat (first | (with_reducible first | exact HB.out | apply Zj | apply Ze | apply Zi | refine Zd ?_ GE345.out) | exact HB.out)⟩
 ·rw [if_neg c3] at H
  have c3b0 : decide (1048576 < (l1.length : Int)) = false := decide_eq_false c3
  have c3b1 : decide (1048576 < l1.length) = false := decide_eq_false (by omega)
  clear c3
  replace H := Option.bind_eq_some_iff.mp H
  obtain ⟨t346, A50, H⟩ := H
  replace H : (if t346 < 0 then (some true) else ((laws_toGraph.f k a0_0 l0_1).bind fun bt347 => ((laws_toIntS.f k l1).bind fun t351 => ((spec_Renamed.f k bt347.1 bt347.2 t351).bind fun bt354 => ((laws_toGraph.f k a0_0 l0_1).bind fun bt360 => ((laws_toIntS.f k l1).bind fun t365 => ((impl_Renamed.f k bt360.1 bt360.2 t365).bind fun bt368 => ((laws_eqGraph.f k bt368.1 bt368.2.1 bt354.1 bt354.2.1).bind fun t374 => (if t374 = true then (laws_FnExactRenamed.j0 k l1 bt354.2.2 t365 bt368.2.2 (bt368.2.2 != bt354.2.2) a0_0 l0_1 bt354.1 bt354.2.1 bt360.1 bt360.2 bt368.1 bt368.2.1) else (laws_FnExactRenamed.j0 k l1 bt354.2.2 t365 bt368.2.2 true a0_0 l0_1 bt354.1 bt354.2.1 bt360.1 bt360.2 bt368.1 bt368.2.1)))))))))) = some r := H
  have A5 := Aside0.mk A50
  clear A50
  by_cases c6 : t346 < 0
  ·rw [if_pos c6] at H
   have c6b0 : decide (t346 < 0) = true := decide_eq_true c6
   clear c6
   obtain rfl := Option.some.inj H
   go_enter Try.func8, Try.ntmps8
   go_wp2_with (first | ((with_reducible refine gate_dst (N := 2) rfl ?_); refine box_event ?hg (N := 2) ?hd (cs := #[.int .i64 a0_0, .slice A0_1 l0_1.length c0_1]) (t := 24) ?hr ?_; (case hd => rfl); (case hg => rfl); (case hr => first | (go_simp; done) | (go_simp; rfl)); intro gb345 hg w7 hbox hb; have n0_ := Aside0.mk (Zu (by repeat (first | (with_reducible first | exact HB.out | apply Zj | apply Ze | apply Zi) | exact HB.out)) hb); have n1_ := Aside0.mk (hbox); have n2_ := Aside0.mk ((by rw [hg]; exact (Zs (by repeat (first | (with_reducible first | exact HB.out | apply Zj | apply Ze | apply Zi) | exact HB.out))) : w.heap.size ≤ gb345)); have n3_ := Aside0.mk ((by rw [hg]; exact (Zs (by repeat (first | (with_reducible first | exact HB.out | apply Zj | apply Ze | apply Zi) | exact HB.out))) : w.heap.size ≤ gb345)); clear HB; have HB := n0_; have BK345 := n1_; have GW345 := n2_; have GE345 := n3_; clear n0_ n1_ n2_ n3_; clear hb hbox hg; have hcz8_0 : w7.cell? ⟨gb345, 0, none⟩ = some (.int .i64 a0_0) := (Zk BK345.out 0).trans rfl; have hcz8_1 : w7.cell? ⟨gb345, 1, none⟩ = some (.slice A0_1 l0_1.length c0_1) := (Zk BK345.out 1).trans rfl; have hfz8_0 := Zl BK345.out 0; have hfz8_1 := Zl BK345.out 1) | ((with_reducible refine ZA (f := 9) rfl ?_); refine goesL_ (some 22) rfl rfl Try.func9 (by kernel_rfl) rfl #[.agg #[.int .i64 a0_0, .slice A0_1 l0_1.length c0_1], .int .i64 1048576] rfl (by (try simp only [List.map_toArray, List.map_cons, List.map_nil]); first | done | rfl | (simp only [List.length_drop, List.length_take]; rfl)) ?_; (with_reducible refine (laws_szGraph.calls k a0_0 _ _ l0_1 1048576 t346 _ ?side1 ?side2 A5.out).mono ?_); (case side1 => repeat (first | exact (ZG HR0_1.out HB.out) | (with_reducible refine Zw ?_ _) | (with_reducible refine Zv ?_ _) | (with_reducible refine Zz ?_))); (case side2 => exact HC0_1.out); rintro e w9 ⟨rfl, hb⟩; refine ⟨_, rfl, ?_⟩; have n0_ := Aside0.mk (Zp (g := gb345) (o := .cells #[.int .i64 a0_0, .slice A0_1 l0_1.length c0_1] 24 (0, 0)) (by (with_reducible repeat (first | refine Zg ?_ _ | refine Zh ?_ | refine Zf ?_ _)); exact BK345.out) hb); have n1_ := Aside0.mk (Zu (by repeat (first | (with_reducible first | exact HB.out | apply Zj | apply Ze | apply Zi | refine Zd ?_ GE345.out) | exact HB.out)) hb); clear BK345; clear HB; have BK345 := n0_; have HB := n1_; clear n0_ n1_; (try clear hb); (try clear hb2); (try clear hk); (try clear hi)))
   all_goals go_ret
   all_goals exact ⟨by first | rfl | (simp [errW_none, errW_some] <;> rfl) | (simp [*, errW_none, errW_some] <;> rfl), by repeat (first | (with_reducible first | exact HB.out | apply Zj | apply Ze | apply Zi | refine Zd ?_ GE345.out) | exact HB.out)⟩
  ·rw [if_neg c6] at H
   have c6b0 : decide (t346 < 0) = false := decide_eq_false c6
   clear c6
   replace H := Option.bind_eq_some_iff.mp H
   obtain ⟨⟨t347, t348⟩, A100, H⟩ := H
   replace H : ((laws_toIntS.f k l1).bind fun t351 => ((spec_Renamed.f k t347 t348 t351).bind fun bt354 => ((laws_toGraph.f k a0_0 l0_1).bind fun bt360 => ((laws_toIntS.f k l1).bind fun t365 => ((impl_Renamed.f k bt360.1 bt360.2 t365).bind fun bt368 => ((laws_eqGraph.f k bt368.1 bt368.2.1 bt354.1 bt354.2.1).bind fun t374 => (if t374 = true then (laws_FnExactRenamed.j0 k l1 bt354.2.2 t365 bt368.2.2 (bt368.2.2 != bt354.2.2) a0_0 l0_1 bt354.1 bt354.2.1 bt360.1 bt360.2 bt368.1 bt368.2.1) else (laws_FnExactRenamed.j0 k l1 bt354.2.2 t365 bt368.2.2 true a0_0 l0_1 bt354.1 bt354.2.1 bt360.1 bt360.2 bt368.1 bt368.2.1)))))))) = some r := H
   have A10 := Aside0.mk A100
   clear A100
   replace H := Option.bind_eq_some_iff.mp H
   obtain ⟨t351, A110, H⟩ := H
   replace H : ((spec_Renamed.f k t347 t348 t351).bind fun bt354 => ((laws_toGraph.f k a0_0 l0_1).bind fun bt360 => ((laws_toIntS.f k l1).bind fun t365 => ((impl_Renamed.f k bt360.1 bt360.2 t365).bind fun bt368 => ((laws_eqGraph.f k bt368.1 bt368.2.1 bt354.1 bt354.2.1).bind fun t374 => (if t374 = true then (laws_FnExactRenamed.j0 k l1 bt354.2.2 t365 bt368.2.2 (bt368.2.2 != bt354.2.2) a0_0 l0_1 bt354.1 bt354.2.1 bt360.1 bt360.2 bt368.1 bt368.2.1) else (laws_FnExactRenamed.j0 k l1 bt354.2.2 t365 bt368.2.2 true a0_0 l0_1 bt354.1 bt354.2.1 bt360.1 bt360.2 bt368.1 bt368.2.1))))))) = some r := H
   have A11 := Aside0.mk A110
   clear A110
   replace H := Option.bind_eq_some_iff.mp H
   obtain ⟨⟨t354, t355, t358⟩, A120, H⟩ := H
   replace H : ((laws_toGraph.f k a0_0 l0_1).bind fun bt360 => ((laws_toIntS.f k l1).bind fun t365 => ((impl_Renamed.f k bt360.1 bt360.2 t365).bind fun bt368 => ((laws_eqGraph.f k bt368.1 bt368.2.1 t354 t355).bind fun t374 => (if t374 = true then (laws_FnExactRenamed.j0 k l1 t358 t365 bt368.2.2 (bt368.2.2 != t358) a0_0 l0_1 t354 t355 bt360.1 bt360.2 bt368.1 bt368.2.1) else (laws_FnExactRenamed.j0 k l1 t358 t365 bt368.2.2 true a0_0 l0_1 t354 t355 bt360.1 bt360.2 bt368.1 bt368.2.1)))))) = some r := H
   have A12 := Aside0.mk A120
   clear A120
   replace H := Option.bind_eq_some_iff.mp H
   obtain ⟨⟨t360, t361⟩, A130, H⟩ := H
   replace H : ((laws_toIntS.f k l1).bind fun t365 => ((impl_Renamed.f k t360 t361 t365).bind fun bt368 => ((laws_eqGraph.f k bt368.1 bt368.2.1 t354 t355).bind fun t374 => (if t374 = true then (laws_FnExactRenamed.j0 k l1 t358 t365 bt368.2.2 (bt368.2.2 != t358) a0_0 l0_1 t354 t355 t360 t361 bt368.1 bt368.2.1) else (laws_FnExactRenamed.j0 k l1 t358 t365 bt368.2.2 true a0_0 l0_1 t354 t355 t360 t361 bt368.1 bt368.2.1))))) = some r := H
   have A13 := Aside0.mk A130
   clear A130
   replace H := Option.bind_eq_some_iff.mp H
   obtain ⟨t365, A140, H⟩ := H
   replace H : ((impl_Renamed.f k t360 t361 t365).bind fun bt368 => ((laws_eqGraph.f k bt368.1 bt368.2.1 t354 t355).bind fun t374 => (if t374 = true then (laws_FnExactRenamed.j0 k l1 t358 t365 bt368.2.2 (bt368.2.2 != t358) a0_0 l0_1 t354 t355 t360 t361 bt368.1 bt368.2.1) else (laws_FnExactRenamed.j0 k l1 t358 t365 bt368.2.2 true a0_0 l0_1 t354 t355 t360 t361 bt368.1 bt368.2.1)))) = some r := H
   have A14 := Aside0.mk A140
   clear A140
   replace H := Option.bind_eq_some_iff.mp H
   obtain ⟨⟨t368, t369, t372⟩, A150, H⟩ := H
   replace H : ((laws_eqGraph.f k t368 t369 t354 t355).bind fun t374 => (if t374 = true then (laws_FnExactRenamed.j0 k l1 t358 t365 t372 (t372 != t358) a0_0 l0_1 t354 t355 t360 t361 t368 t369) else (laws_FnExactRenamed.j0 k l1 t358 t365 t372 true a0_0 l0_1 t354 t355 t360 t361 t368 t369))) = some r := H
   have A15 := Aside0.mk A150
   clear A150
   have HC16 := Aside0.mk H
   clear H
   go_enter Try.func8, Try.ntmps8
   go_upto_region 11 with (first | ((with_reducible refine gate_dst (N := 2) rfl ?_); refine box_event ?hg (N := 2) ?hd (cs := #[.int .i64 a0_0, .slice A0_1 l0_1.length c0_1]) (t := 24) ?hr ?_; (case hd => rfl); (case hg => rfl); (case hr => first | (go_simp; done) | (go_simp; rfl)); intro gb345 hg w17 hbox hb; have n0_ := Aside0.mk (Zu (by repeat (first | (with_reducible first | exact HB.out | apply Zj | apply Ze | apply Zi) | exact HB.out)) hb); have n1_ := Aside0.mk (hbox); have n2_ := Aside0.mk ((by rw [hg]; exact (Zs (by repeat (first | (with_reducible first | exact HB.out | apply Zj | apply Ze | apply Zi) | exact HB.out))) : w.heap.size ≤ gb345)); have n3_ := Aside0.mk ((by rw [hg]; exact (Zs (by repeat (first | (with_reducible first | exact HB.out | apply Zj | apply Ze | apply Zi) | exact HB.out))) : w.heap.size ≤ gb345)); clear HB; have HB := n0_; have BK345 := n1_; have GW345 := n2_; have GE345 := n3_; clear n0_ n1_ n2_ n3_; clear hb hbox hg; have hcz18_0 : w17.cell? ⟨gb345, 0, none⟩ = some (.int .i64 a0_0) := (Zk BK345.out 0).trans rfl; have hcz18_1 : w17.cell? ⟨gb345, 1, none⟩ = some (.slice A0_1 l0_1.length c0_1) := (Zk BK345.out 1).trans rfl; have hfz18_0 := Zl BK345.out 0; have hfz18_1 := Zl BK345.out 1) | ((with_reducible refine ZA (f := 9) rfl ?_); refine goesL_ (some 22) rfl rfl Try.func9 (by kernel_rfl) rfl #[.agg #[.int .i64 a0_0, .slice A0_1 l0_1.length c0_1], .int .i64 1048576] rfl (by (try simp only [List.map_toArray, List.map_cons, List.map_nil]); first | done | rfl | (simp only [List.length_drop, List.length_take]; rfl)) ?_; (with_reducible refine (laws_szGraph.calls k a0_0 _ _ l0_1 1048576 t346 _ ?side1 ?side2 A5.out).mono ?_); (case side1 => repeat (first | exact (ZG HR0_1.out HB.out) | (with_reducible refine Zw ?_ _) | (with_reducible refine Zv ?_ _) | (with_reducible refine Zz ?_))); (case side2 => exact HC0_1.out); rintro e w19 ⟨rfl, hb⟩; refine ⟨_, rfl, ?_⟩; have n0_ := Aside0.mk (Zp (g := gb345) (o := .cells #[.int .i64 a0_0, .slice A0_1 l0_1.length c0_1] 24 (0, 0)) (by (with_reducible repeat (first | refine Zg ?_ _ | refine Zh ?_ | refine Zf ?_ _)); exact BK345.out) hb); have n1_ := Aside0.mk (Zu (by repeat (first | (with_reducible first | exact HB.out | apply Zj | apply Ze | apply Zi | refine Zd ?_ GE345.out) | exact HB.out)) hb); clear BK345; clear HB; have BK345 := n0_; have HB := n1_; clear n0_ n1_; (try clear hb); (try clear hb2); (try clear hk); (try clear hi); have hcz20_0 : w19.cell? ⟨gb345, 0, none⟩ = some (.int .i64 a0_0) := (Zk BK345.out 0).trans rfl; have hcz20_1 : w19.cell? ⟨gb345, 1, none⟩ = some (.slice A0_1 l0_1.length c0_1) := (Zk BK345.out 1).trans rfl; have hfz20_0 := Zl BK345.out 0; have hfz20_1 := Zl BK345.out 1) | ((with_reducible refine ZA (f := 11) rfl ?_); refine goesL_ (some 27) rfl rfl Try.func11 (by kernel_rfl) rfl #[.agg #[.int .i64 a0_0, .slice A0_1 l0_1.length c0_1]] rfl (by (try simp only [List.map_toArray, List.map_cons, List.map_nil]); first | done | rfl | (simp only [List.length_drop, List.length_take]; rfl)) ?_; (with_reducible refine (laws_toGraph.calls k a0_0 _ _ l0_1 t347 t348 _ ?side1 ?side2 A10.out).mono ?_); (case side1 => repeat (first | exact (ZG HR0_1.out HB.out) | (with_reducible refine Zw ?_ _) | (with_reducible refine Zv ?_ _) | (with_reducible refine Zz ?_))); (case side2 => exact HC0_1.out); rintro e w21 ⟨v349, rfl, ho0, hb⟩; refine ⟨_, rfl, ?_⟩; obtain ⟨nsp_HO350, hnsp_HO350, ho0⟩ := S_newSp ho0; have n0_ := Aside0.mk (Kd.S_lower ho0 (Zs (by repeat (first | (with_reducible first | exact HB.out | apply Zj | apply Ze | apply Zi | refine Zd ?_ GE345.out) | exact HB.out)))); have n1_ := Aside0.mk (Zp (g := gb345) (o := .cells #[.int .i64 a0_0, .slice A0_1 l0_1.length c0_1] 24 (0, 0)) (by (with_reducible repeat (first | refine Zg ?_ _ | refine Zh ?_ | refine Zf ?_ _)); exact BK345.out) hb); have n2_ := Aside0.mk (Zu (by repeat (first | (with_reducible first | exact HB.out | apply Zj | apply Ze | apply Zi | refine Zd ?_ GE345.out) | exact HB.out)) hb); clear BK345; clear HB; have HO350 := n0_; have BK345 := n1_; have HB := n2_; clear n0_ n1_ n2_; (try clear hb); (try clear hb2); (try clear hk); (try clear hi); (try clear ho0)) | ((with_reducible refine ZA (f := 15) rfl ?_); refine goesL_ (some 29) rfl rfl Try.func15 (by kernel_rfl) rfl #[.slice A1 l1.length c1] rfl (by (try simp only [List.map_toArray, List.map_cons, List.map_nil]); first | done | rfl | (simp only [List.length_drop, List.length_take]; rfl)) ?_; (with_reducible refine (laws_toIntS.calls k _ _ l1 t351 _ ?side1 ?side2 A11.out).mono ?_); (case side1 => repeat (first | exact (ZG HR1.out HB.out) | (with_reducible refine Zw ?_ _) | (with_reducible refine Zv ?_ _) | (with_reducible refine Zz ?_))); (case side2 => exact HC1.out); rintro e w22 ⟨v352, rfl, ho0, hb⟩; refine ⟨_, rfl, ?_⟩; have n0_ := Aside0.mk (ZK (by (with_reducible repeat (first | apply Zn | apply Zm | apply Zo)); exact HO350.out) (Kd.R_base ho0) hb); have n1_ := Aside0.mk (Kd.R_lower ho0 (Zs (by repeat (first | (with_reducible first | exact HB.out | apply Zj | apply Ze | apply Zi | refine Zd ?_ GE345.out) | exact HB.out)))); have n2_ := Aside0.mk (Zp (g := gb345) (o := .cells #[.int .i64 a0_0, .slice A0_1 l0_1.length c0_1] 24 (0, 0)) (by (with_reducible repeat (first | refine Zg ?_ _ | refine Zh ?_ | refine Zf ?_ _)); exact BK345.out) hb); have n3_ := Aside0.mk (Zu (by repeat (first | (with_reducible first | exact HB.out | apply Zj | apply Ze | apply Zi | refine Zd ?_ GE345.out) | exact HB.out)) hb); clear HO350; clear BK345; clear HB; have HO350 := n0_; have HO353 := n1_; have BK345 := n2_; have HB := n3_; clear n0_ n1_ n2_ n3_; (try clear hb); (try clear hb2); (try clear hk); (try clear hi); (try clear ho0); obtain ⟨Ao23, co23, eo23⟩ := Kd.S_slice HO350.out; subst eo23; obtain ⟨Ao24, co24, eo24⟩ := Kd.R_slice HO353.out; subst eo24) | ((with_reducible refine ZA (f := 52) rfl ?_); refine goesL_ (some 30) rfl rfl Try.func52 (by kernel_rfl) rfl #[.agg #[.int .i64 t347, .slice Ao23 t348.length co23], .slice Ao24 t351.length co24] rfl (by (try simp only [List.map_toArray, List.map_cons, List.map_nil]); first | done | rfl | (simp only [List.length_drop, List.length_take]; rfl)) ?_; (with_reducible refine (spec_Renamed.calls k t347 _ _ t348 _ _ t351 t354 t355 t358 _ ?side1 ?side2 ?side3 ?side4 A12.out).mono ?_); (case side1 => repeat (first | exact (ZF HO350.out).2.2 | (with_reducible refine Zw ?_ _) | (with_reducible refine Zv ?_ _) | (with_reducible refine Zz ?_))); (case side2 => exact (ZF HO350.out).2.1); (case side3 => repeat (first | exact (Kd.R_reads' HO353.out).2.2 | (with_reducible refine Zw ?_ _) | (with_reducible refine Zv ?_ _) | (with_reducible refine Zz ?_))); (case side4 => exact (Kd.R_reads' HO353.out).2.1); rintro e w25 ⟨v356, rfl, ho0, hb⟩; refine ⟨_, rfl, ?_⟩; obtain ⟨nsp_HO357, hnsp_HO357, ho0⟩ := S_newSp ho0; have n0_ := Aside0.mk (ZK ((S_oldSp (by (with_reducible repeat (first | apply Zn | apply Zm | apply Zo)); exact HO350.out) hnsp_HO357)) (Kd.S_base ho0) hb); have n1_ := Aside0.mk (Kd.R_below (by (with_reducible repeat (first | apply ZO | apply ZN | apply ZQ)); exact HO353.out) hb); have n2_ := Aside0.mk (Kd.S_lower (Kd.S_new' (Kd.S_new' ho0 (Kd.S_lt (by (with_reducible repeat (first | apply Zn | apply Zm | apply Zo)); exact HO350.out))) (Kd.R_lt (by (with_reducible repeat (first | apply ZO | apply ZN | apply ZQ)); exact HO353.out))) (Zs (by repeat (first | (with_reducible first | exact HB.out | apply Zj | apply Ze | apply Zi | refine Zd ?_ GE345.out) | exact HB.out)))); have n3_ := Aside0.mk (Zp (g := gb345) (o := .cells #[.int .i64 a0_0, .slice A0_1 l0_1.length c0_1] 24 (0, 0)) (by (with_reducible repeat (first | refine Zg ?_ _ | refine Zh ?_ | refine Zf ?_ _)); exact BK345.out) hb); have n4_ := Aside0.mk (Zu (by repeat (first | (with_reducible first | exact HB.out | apply Zj | apply Ze | apply Zi | refine Zd ?_ GE345.out) | exact HB.out)) hb); clear HO350; clear HO353; clear BK345; clear HB; have HO350 := n0_; have HO353 := n1_; have HO357 := n2_; have BK345 := n3_; have HB := n4_; clear n0_ n1_ n2_ n3_ n4_; (try clear hb); (try clear hb2); (try clear hk); (try clear hi); (try clear ho0)) | ((with_reducible refine gate_dst (N := 6) rfl ?_); refine box_event ?hg (N := 6) ?hd (cs := #[.int .i64 0, .slice none 0 0]) (t := 27) ?hr ?_; (case hd => rfl); (case hg => rfl); (case hr => first | (go_simp; done) | (go_simp; rfl)); intro gb359 hg w26 hbox hb; have n0_ := Aside0.mk (ZC (by (with_reducible repeat (first | apply Zn | apply Zm | apply Zo)); exact HO350.out) hb); have n1_ := Aside0.mk (Kd.R_below (by (with_reducible repeat (first | apply ZO | apply ZN | apply ZQ)); exact HO353.out) hb); have n2_ := Aside0.mk (ZC (by (with_reducible repeat (first | apply Zn | apply Zm | apply Zo)); exact HO357.out) hb); have n3_ := Aside0.mk (Zp (g := gb345) (o := .cells #[.int .i64 a0_0, .slice A0_1 l0_1.length c0_1] 24 (0, 0)) (by (with_reducible repeat (first | refine Zg ?_ _ | refine Zh ?_ | refine Zf ?_ _)); exact BK345.out) hb); have n4_ := Aside0.mk (Zu (by repeat (first | (with_reducible first | exact HB.out | apply Zj | apply Ze | apply Zi | refine Zd ?_ GE345.out) | exact HB.out)) hb); have n5_ := Aside0.mk (hbox); have n6_ := Aside0.mk ((by rw [hg]; exact (Zs (by repeat (first | (with_reducible first | exact HB.out | apply Zj | apply Ze | apply Zi | refine Zd ?_ GE345.out) | exact HB.out))) : w.heap.size ≤ gb359)); have n7_ := Aside0.mk ((by rw [hg]; exact (Zs (by repeat (first | (with_reducible first | exact HB.out | apply Zj | apply Ze | apply Zi | refine Zd ?_ GE345.out) | exact HB.out))) : w.heap.size ≤ gb359)); have n8_ := Aside0.mk ((by rw [hg]; exact Nat.ne_of_lt (blk_lt (g := gb345) (o := .cells #[.int .i64 a0_0, .slice A0_1 l0_1.length c0_1] 24 (0, 0)) (by (with_reducible repeat (first | refine Zg ?_ _ | refine Zh ?_ | refine Zf ?_ _)); exact BK345.out)) : gb345 ≠ gb359)); have n9_ := Aside0.mk ((by rw [hg]; exact Nat.ne_of_gt (blk_lt (g := gb345) (o := .cells #[.int .i64 a0_0, .slice A0_1 l0_1.length c0_1] 24 (0, 0)) (by (with_reducible repeat (first | refine Zg ?_ _ | refine Zh ?_ | refine Zf ?_ _)); exact BK345.out)) : gb359 ≠ gb345)); clear HO350; clear HO353; clear HO357; clear BK345; clear HB; have HO350 := n0_; have HO353 := n1_; have HO357 := n2_; have BK345 := n3_; have HB := n4_; have BK359 := n5_; have GW359 := n6_; have GE359 := n7_; have NB345_359 := n8_; have NB359_345 := n9_; clear n0_ n1_ n2_ n3_ n4_ n5_ n6_ n7_ n8_ n9_; clear hb hbox hg; have hnb27 := NB359_345.out; have hnc27 := NB345_359.out; have hcz28_0 : w26.cell? ⟨gb359, 0, none⟩ = some (.int .i64 0) := (Zk BK359.out 0).trans rfl; have hcz28_1 : w26.cell? ⟨gb359, 1, none⟩ = some (.slice none 0 0) := (Zk BK359.out 1).trans rfl; have hfz28_0 := Zl BK359.out 0; have hfz28_1 := Zl BK359.out 1; obtain ⟨Ao29, co29, eo29⟩ := Kd.S_slice HO357.out; subst eo29; have hcz30_0 : w26.cell? ⟨gb345, 0, none⟩ = some (.int .i64 a0_0) := (Zk BK345.out 0).trans rfl; have hcz30_1 : w26.cell? ⟨gb345, 1, none⟩ = some (.slice A0_1 l0_1.length c0_1) := (Zk BK345.out 1).trans rfl; have hfz30_0 := Zl BK345.out 0; have hfz30_1 := Zl BK345.out 1) | ((with_reducible refine ZA (f := 11) rfl ?_); refine goesL_ (some 34) rfl rfl Try.func11 (by kernel_rfl) rfl #[.agg #[.int .i64 a0_0, .slice A0_1 l0_1.length c0_1]] rfl (by (try simp only [List.map_toArray, List.map_cons, List.map_nil]); first | done | rfl | (simp only [List.length_drop, List.length_take]; rfl)) ?_; (with_reducible refine (laws_toGraph.calls k a0_0 _ _ l0_1 t360 t361 _ ?side1 ?side2 A13.out).mono ?_); (case side1 => exact ZG HR0_1.out (by repeat (first | (with_reducible first | exact HB.out | apply Zj | apply Ze | apply Zi | refine Zd ?_ GE345.out | refine Zd ?_ GE359.out) | exact HB.out))); (case side2 => exact HC0_1.out); rintro e w31 ⟨v362, rfl, ho0, hb⟩; refine ⟨_, rfl, ?_⟩; obtain ⟨nsp_HO363, hnsp_HO363, ho0⟩ := S_newSp ho0; have n0_ := Aside0.mk (ZK ((S_oldSp (by (with_reducible repeat (first | apply Zn | apply Zm | apply Zo)); exact (Zy (ZB (p := ⟨gb359, 1, none⟩) (ZB (p := ⟨gb359, 0, none⟩) (ZJ HO350.out BK359.out (by first | decide | exact spE_ (by decide))) (fun _ hk => hk.2) (.int .i64 t354)) (fun _ hk => hk.2) (.slice Ao29 t355.length co29)) (fun _ h_ => h_.1))) hnsp_HO363)) (Kd.S_base ho0) hb); have n1_ := Aside0.mk (Kd.R_below (by (with_reducible repeat (first | apply ZO | apply ZN | apply ZQ)); exact (ZR (Kd.R_far (p := ⟨gb359, 1, none⟩) (Kd.R_far (p := ⟨gb359, 0, none⟩) (Kd.R_types HO353.out BK359.out (by first | decide | exact spE_ (by decide))) (fun _ hk => hk.2) (.int .i64 t354)) (fun _ hk => hk.2) (.slice Ao29 t355.length co29)) (fun _ h_ => h_.1))) hb); have n2_ := Aside0.mk (ZK ((S_oldSp (by (with_reducible repeat (first | apply Zn | apply Zm | apply Zo)); exact (Zy (ZB (p := ⟨gb359, 1, none⟩) (ZB (p := ⟨gb359, 0, none⟩) (ZJ HO357.out BK359.out (by first | decide | exact spE_ (by decide))) (fun _ hk => hk.2) (.int .i64 t354)) (fun _ hk => hk.2) (.slice Ao29 t355.length co29)) (fun _ h_ => h_.1))) hnsp_HO363)) (Kd.S_base ho0) hb); have n3_ := Aside0.mk (Kd.S_lower (Kd.S_new' (Kd.S_new' (Kd.S_new' ho0 (Kd.S_lt (by (with_reducible repeat (first | apply Zn | apply Zm | apply Zo)); exact (Zy (ZB (p := ⟨gb359, 1, none⟩) (ZB (p := ⟨gb359, 0, none⟩) (ZJ HO350.out BK359.out (by first | decide | exact spE_ (by decide))) (fun _ hk => hk.2) (.int .i64 t354)) (fun _ hk => hk.2) (.slice Ao29 t355.length co29)) (fun _ h_ => h_.1))))) (Kd.R_lt (by (with_reducible repeat (first | apply ZO | apply ZN | apply ZQ)); exact (ZR (Kd.R_far (p := ⟨gb359, 1, none⟩) (Kd.R_far (p := ⟨gb359, 0, none⟩) (Kd.R_types HO353.out BK359.out (by first | decide | exact spE_ (by decide))) (fun _ hk => hk.2) (.int .i64 t354)) (fun _ hk => hk.2) (.slice Ao29 t355.length co29)) (fun _ h_ => h_.1))))) (Kd.S_lt (by (with_reducible repeat (first | apply Zn | apply Zm | apply Zo)); exact (Zy (ZB (p := ⟨gb359, 1, none⟩) (ZB (p := ⟨gb359, 0, none⟩) (ZJ HO357.out BK359.out (by first | decide | exact spE_ (by decide))) (fun _ hk => hk.2) (.int .i64 t354)) (fun _ hk => hk.2) (.slice Ao29 t355.length co29)) (fun _ h_ => h_.1))))) (Zs (by repeat (first | (with_reducible first | exact HB.out | apply Zj | apply Ze | apply Zi | refine Zd ?_ GE345.out | refine Zd ?_ GE359.out) | exact HB.out)))); have n4_ := Aside0.mk (Zp (g := gb345) (o := .cells #[.int .i64 a0_0, .slice A0_1 l0_1.length c0_1] 24 (0, 0)) (by (with_reducible repeat (first | refine Zg ?_ _ | refine Zh ?_ | refine Zf ?_ _)); refine ZP ?_ NB345_359.out _; (with_reducible repeat (first | refine Zg ?_ _ | refine Zh ?_ | refine Zf ?_ _)); refine ZP ?_ NB345_359.out _; (with_reducible repeat (first | refine Zg ?_ _ | refine Zh ?_ | refine Zf ?_ _)); exact BK345.out) hb); have n5_ := Aside0.mk (Zp (g := gb359) (o := .cells #[.int .i64 t354, .slice Ao29 t355.length co29] 27 (0, 0)) (by (with_reducible repeat (first | refine Zg ?_ _ | refine Zh ?_ | refine Zf ?_ _)); refine blk_put (cs := #[.int .i64 t354, .slice none 0 0]) ?_ 1 _ rfl; (with_reducible repeat (first | refine Zg ?_ _ | refine Zh ?_ | refine Zf ?_ _)); refine blk_put (cs := #[.int .i64 0, .slice none 0 0]) ?_ 0 _ rfl; (with_reducible repeat (first | refine Zg ?_ _ | refine Zh ?_ | refine Zf ?_ _)); exact BK359.out) hb); have n6_ := Aside0.mk (Zu (by repeat (first | (with_reducible first | exact HB.out | apply Zj | apply Ze | apply Zi | refine Zd ?_ GE345.out | refine Zd ?_ GE359.out) | exact HB.out)) hb); clear HO350; clear HO353; clear HO357; clear BK345; clear BK359; clear HB; have HO350 := n0_; have HO353 := n1_; have HO357 := n2_; have HO363 := n3_; have BK345 := n4_; have BK359 := n5_; have HB := n6_; clear n0_ n1_ n2_ n3_ n4_ n5_ n6_; (try clear hb); (try clear hb2); (try clear hk); (try clear hi); (try clear ho0)) | ((with_reducible refine gate_dst (N := 8) rfl ?_); refine box_event ?hg (N := 8) ?hd (cs := #[.int .i64 0, .slice none 0 0]) (t := 27) ?hr ?_; (case hd => rfl); (case hg => rfl); (case hr => first | (go_simp; done) | (go_simp; rfl)); intro gb364 hg w32 hbox hb; have n0_ := Aside0.mk (ZC (by (with_reducible repeat (first | apply Zn | apply Zm | apply Zo)); exact HO350.out) hb); have n1_ := Aside0.mk (Kd.R_below (by (with_reducible repeat (first | apply ZO | apply ZN | apply ZQ)); exact HO353.out) hb); have n2_ := Aside0.mk (ZC (by (with_reducible repeat (first | apply Zn | apply Zm | apply Zo)); exact HO357.out) hb); have n3_ := Aside0.mk (ZC (by (with_reducible repeat (first | apply Zn | apply Zm | apply Zo)); exact HO363.out) hb); have n4_ := Aside0.mk (Zp (g := gb345) (o := .cells #[.int .i64 a0_0, .slice A0_1 l0_1.length c0_1] 24 (0, 0)) (by (with_reducible repeat (first | refine Zg ?_ _ | refine Zh ?_ | refine Zf ?_ _)); exact BK345.out) hb); have n5_ := Aside0.mk (Zp (g := gb359) (o := .cells #[.int .i64 t354, .slice Ao29 t355.length co29] 27 (0, 0)) (by (with_reducible repeat (first | refine Zg ?_ _ | refine Zh ?_ | refine Zf ?_ _)); exact BK359.out) hb); have n6_ := Aside0.mk (Zu (by repeat (first | (with_reducible first | exact HB.out | apply Zj | apply Ze | apply Zi | refine Zd ?_ GE345.out | refine Zd ?_ GE359.out) | exact HB.out)) hb); have n7_ := Aside0.mk (hbox); have n8_ := Aside0.mk ((by rw [hg]; exact (Zs (by repeat (first | (with_reducible first | exact HB.out | apply Zj | apply Ze | apply Zi | refine Zd ?_ GE345.out | refine Zd ?_ GE359.out) | exact HB.out))) : w.heap.size ≤ gb364)); have n9_ := Aside0.mk ((by rw [hg]; exact (Zs (by repeat (first | (with_reducible first | exact HB.out | apply Zj | apply Ze | apply Zi | refine Zd ?_ GE345.out | refine Zd ?_ GE359.out) | exact HB.out))) : w.heap.size ≤ gb364)); have n10_ := Aside0.mk ((by rw [hg]; exact Nat.ne_of_lt (blk_lt (g := gb345) (o := .cells #[.int .i64 a0_0, .slice A0_1 l0_1.length c0_1] 24 (0, 0)) (by (with_reducible repeat (first | refine Zg ?_ _ | refine Zh ?_ | refine Zf ?_ _)); exact BK345.out)) : gb345 ≠ gb364)); have n11_ := Aside0.mk ((by rw [hg]; exact Nat.ne_of_gt (blk_lt (g := gb345) (o := .cells #[.int .i64 a0_0, .slice A0_1 l0_1.length c0_1] 24 (0, 0)) (by (with_reducible repeat (first | refine Zg ?_ _ | refine Zh ?_ | refine Zf ?_ _)); exact BK345.out)) : gb364 ≠ gb345)); have n12_ := Aside0.mk ((by rw [hg]; exact Nat.ne_of_lt (blk_lt (g := gb359) (o := .cells #[.int .i64 t354, .slice Ao29 t355.length co29] 27 (0, 0)) (by (with_reducible repeat (first | refine Zg ?_ _ | refine Zh ?_ | refine Zf ?_ _)); exact BK359.out)) : gb359 ≠ gb364)); have n13_ := Aside0.mk ((by rw [hg]; exact Nat.ne_of_gt (blk_lt (g := gb359) (o := .cells #[.int .i64 t354, .slice Ao29 t355.length co29] 27 (0, 0)) (by (with_reducible repeat (first | refine Zg ?_ _ | refine Zh ?_ | refine Zf ?_ _)); exact BK359.out)) : gb364 ≠ gb359)); clear HO350; clear HO353; clear HO357; clear HO363; clear BK345; clear BK359; clear HB; have HO350 := n0_; have HO353 := n1_; have HO357 := n2_; have HO363 := n3_; have BK345 := n4_; have BK359 := n5_; have HB := n6_; have BK364 := n7_; have GW364 := n8_; have GE364 := n9_; have NB345_364 := n10_; have NB364_345 := n11_; have NB359_364 := n12_; have NB364_359 := n13_; clear n0_ n1_ n2_ n3_ n4_ n5_ n6_ n7_ n8_ n9_ n10_ n11_ n12_ n13_; clear hb hbox hg; have hnb33 := NB364_345.out; have hnc33 := NB345_364.out; have hnb34 := NB364_359.out; have hnc34 := NB359_364.out; have hcz35_0 : w32.cell? ⟨gb364, 0, none⟩ = some (.int .i64 0) := (Zk BK364.out 0).trans rfl; have hcz35_1 : w32.cell? ⟨gb364, 1, none⟩ = some (.slice none 0 0) := (Zk BK364.out 1).trans rfl; have hfz35_0 := Zl BK364.out 0; have hfz35_1 := Zl BK364.out 1; obtain ⟨Ao36, co36, eo36⟩ := Kd.S_slice HO363.out; subst eo36) | ((with_reducible refine ZA (f := 15) rfl ?_); refine goesL_ (some 36) rfl rfl Try.func15 (by kernel_rfl) rfl #[.slice A1 l1.length c1] rfl (by (try simp only [List.map_toArray, List.map_cons, List.map_nil]); first | done | rfl | (simp only [List.length_drop, List.length_take]; rfl)) ?_; (with_reducible refine (laws_toIntS.calls k _ _ l1 t365 _ ?side1 ?side2 A14.out).mono ?_); (case side1 => exact ZG HR1.out (by repeat (first | (with_reducible first | exact HB.out | apply Zj | apply Ze | apply Zi | refine Zd ?_ GE345.out | refine Zd ?_ GE359.out | refine Zd ?_ GE364.out) | exact HB.out))); (case side2 => exact HC1.out); rintro e w37 ⟨v366, rfl, ho0, hb⟩; refine ⟨_, rfl, ?_⟩; have n0_ := Aside0.mk (ZK (by (with_reducible repeat (first | apply Zn | apply Zm | apply Zo)); exact (Zy (ZB (p := ⟨gb364, 1, none⟩) (ZB (p := ⟨gb364, 0, none⟩) (ZJ HO350.out BK364.out (by first | decide | exact spE_ (by decide))) (fun _ hk => hk.2) (.int .i64 t360)) (fun _ hk => hk.2) (.slice Ao36 t361.length co36)) (fun _ h_ => h_.1))) (Kd.R_base ho0) hb); have n1_ := Aside0.mk (Kd.R_elder' (by (with_reducible repeat (first | apply ZO | apply ZN | apply ZQ)); exact (ZR (Kd.R_far (p := ⟨gb364, 1, none⟩) (Kd.R_far (p := ⟨gb364, 0, none⟩) (Kd.R_types HO353.out BK364.out (by first | decide | exact spE_ (by decide))) (fun _ hk => hk.2) (.int .i64 t360)) (fun _ hk => hk.2) (.slice Ao36 t361.length co36)) (fun _ h_ => h_.1))) (Kd.R_base ho0) hb); have n2_ := Aside0.mk (ZK (by (with_reducible repeat (first | apply Zn | apply Zm | apply Zo)); exact (Zy (ZB (p := ⟨gb364, 1, none⟩) (ZB (p := ⟨gb364, 0, none⟩) (ZJ HO357.out BK364.out (by first | decide | exact spE_ (by decide))) (fun _ hk => hk.2) (.int .i64 t360)) (fun _ hk => hk.2) (.slice Ao36 t361.length co36)) (fun _ h_ => h_.1))) (Kd.R_base ho0) hb); have n3_ := Aside0.mk (ZK (by (with_reducible repeat (first | apply Zn | apply Zm | apply Zo)); exact (Zy (ZB (p := ⟨gb364, 1, none⟩) (ZB (p := ⟨gb364, 0, none⟩) (ZJ HO363.out BK364.out (by first | decide | exact spE_ (by decide))) (fun _ hk => hk.2) (.int .i64 t360)) (fun _ hk => hk.2) (.slice Ao36 t361.length co36)) (fun _ h_ => h_.1))) (Kd.R_base ho0) hb); have n4_ := Aside0.mk (Kd.R_lower (Kd.R_new' ho0 (Kd.R_lt (by (with_reducible repeat (first | apply ZO | apply ZN | apply ZQ)); exact (ZR (Kd.R_far (p := ⟨gb364, 1, none⟩) (Kd.R_far (p := ⟨gb364, 0, none⟩) (Kd.R_types HO353.out BK364.out (by first | decide | exact spE_ (by decide))) (fun _ hk => hk.2) (.int .i64 t360)) (fun _ hk => hk.2) (.slice Ao36 t361.length co36)) (fun _ h_ => h_.1))))) (Zs (by repeat (first | (with_reducible first | exact HB.out | apply Zj | apply Ze | apply Zi | refine Zd ?_ GE345.out | refine Zd ?_ GE359.out | refine Zd ?_ GE364.out) | exact HB.out)))); have n5_ := Aside0.mk (Zp (g := gb345) (o := .cells #[.int .i64 a0_0, .slice A0_1 l0_1.length c0_1] 24 (0, 0)) (by (with_reducible repeat (first | refine Zg ?_ _ | refine Zh ?_ | refine Zf ?_ _)); refine ZP ?_ NB345_364.out _; (with_reducible repeat (first | refine Zg ?_ _ | refine Zh ?_ | refine Zf ?_ _)); refine ZP ?_ NB345_364.out _; (with_reducible repeat (first | refine Zg ?_ _ | refine Zh ?_ | refine Zf ?_ _)); exact BK345.out) hb); have n6_ := Aside0.mk (Zp (g := gb359) (o := .cells #[.int .i64 t354, .slice Ao29 t355.length co29] 27 (0, 0)) (by (with_reducible repeat (first | refine Zg ?_ _ | refine Zh ?_ | refine Zf ?_ _)); refine ZP ?_ NB359_364.out _; (with_reducible repeat (first | refine Zg ?_ _ | refine Zh ?_ | refine Zf ?_ _)); refine ZP ?_ NB359_364.out _; (with_reducible repeat (first | refine Zg ?_ _ | refine Zh ?_ | refine Zf ?_ _)); exact BK359.out) hb); have n7_ := Aside0.mk (Zp (g := gb364) (o := .cells #[.int .i64 t360, .slice Ao36 t361.length co36] 27 (0, 0)) (by (with_reducible repeat (first | refine Zg ?_ _ | refine Zh ?_ | refine Zf ?_ _)); refine blk_put (cs := #[.int .i64 t360, .slice none 0 0]) ?_ 1 _ rfl; (with_reducible repeat (first | refine Zg ?_ _ | refine Zh ?_ | refine Zf ?_ _)); refine blk_put (cs := #[.int .i64 0, .slice none 0 0]) ?_ 0 _ rfl; (with_reducible repeat (first | refine Zg ?_ _ | refine Zh ?_ | refine Zf ?_ _)); exact BK364.out) hb); have n8_ := Aside0.mk (Zu (by repeat (first | (with_reducible first | exact HB.out | apply Zj | apply Ze | apply Zi | refine Zd ?_ GE345.out | refine Zd ?_ GE359.out | refine Zd ?_ GE364.out) | exact HB.out)) hb); clear HO350; clear HO353; clear HO357; clear HO363; clear BK345; clear BK359; clear BK364; clear HB; have HO350 := n0_; have HO353 := n1_; have HO357 := n2_; have HO363 := n3_; have HO367 := n4_; have BK345 := n5_; have BK359 := n6_; have BK364 := n7_; have HB := n8_; clear n0_ n1_ n2_ n3_ n4_ n5_ n6_ n7_ n8_; (try clear hb); (try clear hb2); (try clear hk); (try clear hi); (try clear ho0); have hcz38_0 : w37.cell? ⟨gb364, 0, none⟩ = some (.int .i64 t360) := (Zk BK364.out 0).trans rfl; have hcz38_1 : w37.cell? ⟨gb364, 1, none⟩ = some (.slice Ao36 t361.length co36) := (Zk BK364.out 1).trans rfl; have hfz38_0 := Zl BK364.out 0; have hfz38_1 := Zl BK364.out 1; obtain ⟨Ao39, co39, eo39⟩ := Kd.R_slice HO367.out; subst eo39) | ((with_reducible refine ZA (f := 48) rfl ?_); refine goesL_ (some 40) rfl rfl Try.func48 (by kernel_rfl) rfl #[.agg #[.int .i64 t360, .slice Ao36 t361.length co36], .slice Ao39 t365.length co39] rfl (by (try simp only [List.map_toArray, List.map_cons, List.map_nil]); first | done | rfl | (simp only [List.length_drop, List.length_take]; rfl)) ?_; (with_reducible refine (impl_Renamed.calls k t360 _ _ t361 _ _ t365 t368 t369 t372 _ ?side1 ?side2 ?side3 ?side4 A15.out).mono ?_); (case side1 => repeat (first | exact (ZF HO363.out).2.2 | (with_reducible refine Zw ?_ _) | (with_reducible refine Zv ?_ _) | (with_reducible refine Zz ?_))); (case side2 => exact (ZF HO363.out).2.1); (case side3 => repeat (first | exact (Kd.R_reads' HO367.out).2.2 | (with_reducible refine Zw ?_ _) | (with_reducible refine Zv ?_ _) | (with_reducible refine Zz ?_))); (case side4 => exact (Kd.R_reads' HO367.out).2.1); rintro e w40 ⟨v370, rfl, ho0, hb⟩; refine ⟨_, rfl, ?_⟩; obtain ⟨nsp_HO371, hnsp_HO371, ho0⟩ := S_newSp ho0; have n0_ := Aside0.mk (ZK ((S_oldSp (by (with_reducible repeat (first | apply Zn | apply Zm | apply Zo)); exact HO350.out) hnsp_HO371)) (Kd.S_base ho0) hb); have n1_ := Aside0.mk (Kd.R_below (by (with_reducible repeat (first | apply ZO | apply ZN | apply ZQ)); exact HO353.out) hb); have n2_ := Aside0.mk (ZK ((S_oldSp (by (with_reducible repeat (first | apply Zn | apply Zm | apply Zo)); exact HO357.out) hnsp_HO371)) (Kd.S_base ho0) hb); have n3_ := Aside0.mk (ZK ((S_oldSp (by (with_reducible repeat (first | apply Zn | apply Zm | apply Zo)); exact HO363.out) hnsp_HO371)) (Kd.S_base ho0) hb); have n4_ := Aside0.mk (Kd.R_below (by (with_reducible repeat (first | apply ZO | apply ZN | apply ZQ)); exact HO367.out) hb); have n5_ := Aside0.mk (Kd.S_lower (Kd.S_new' (Kd.S_new' (Kd.S_new' (Kd.S_new' (Kd.S_new' ho0 (Kd.S_lt (by (with_reducible repeat (first | apply Zn | apply Zm | apply Zo)); exact HO350.out))) (Kd.R_lt (by (with_reducible repeat (first | apply ZO | apply ZN | apply ZQ)); exact HO353.out))) (Kd.S_lt (by (with_reducible repeat (first | apply Zn | apply Zm | apply Zo)); exact HO357.out))) (Kd.S_lt (by (with_reducible repeat (first | apply Zn | apply Zm | apply Zo)); exact HO363.out))) (Kd.R_lt (by (with_reducible repeat (first | apply ZO | apply ZN | apply ZQ)); exact HO367.out))) (Zs (by repeat (first | (with_reducible first | exact HB.out | apply Zj | apply Ze | apply Zi | refine Zd ?_ GE345.out | refine Zd ?_ GE359.out | refine Zd ?_ GE364.out) | exact HB.out)))); have n6_ := Aside0.mk (Zp (g := gb345) (o := .cells #[.int .i64 a0_0, .slice A0_1 l0_1.length c0_1] 24 (0, 0)) (by (with_reducible repeat (first | refine Zg ?_ _ | refine Zh ?_ | refine Zf ?_ _)); exact BK345.out) hb); have n7_ := Aside0.mk (Zp (g := gb359) (o := .cells #[.int .i64 t354, .slice Ao29 t355.length co29] 27 (0, 0)) (by (with_reducible repeat (first | refine Zg ?_ _ | refine Zh ?_ | refine Zf ?_ _)); exact BK359.out) hb); have n8_ := Aside0.mk (Zp (g := gb364) (o := .cells #[.int .i64 t360, .slice Ao36 t361.length co36] 27 (0, 0)) (by (with_reducible repeat (first | refine Zg ?_ _ | refine Zh ?_ | refine Zf ?_ _)); exact BK364.out) hb); have n9_ := Aside0.mk (Zu (by repeat (first | (with_reducible first | exact HB.out | apply Zj | apply Ze | apply Zi | refine Zd ?_ GE345.out | refine Zd ?_ GE359.out | refine Zd ?_ GE364.out) | exact HB.out)) hb); clear HO350; clear HO353; clear HO357; clear HO363; clear HO367; clear BK345; clear BK359; clear BK364; clear HB; have HO350 := n0_; have HO353 := n1_; have HO357 := n2_; have HO363 := n3_; have HO367 := n4_; have HO371 := n5_; have BK345 := n6_; have BK359 := n7_; have BK364 := n8_; have HB := n9_; clear n0_ n1_ n2_ n3_ n4_ n5_ n6_ n7_ n8_ n9_; (try clear hb); (try clear hb2); (try clear hk); (try clear hi); (try clear ho0)) | ((with_reducible refine gate_dst (N := 10) rfl ?_); refine box_event ?hg (N := 10) ?hd (cs := #[.int .i64 0, .slice none 0 0]) (t := 27) ?hr ?_; (case hd => rfl); (case hg => rfl); (case hr => first | (go_simp; done) | (go_simp; rfl)); intro gb373 hg w41 hbox hb; have n0_ := Aside0.mk (ZC (by (with_reducible repeat (first | apply Zn | apply Zm | apply Zo)); exact HO350.out) hb); have n1_ := Aside0.mk (Kd.R_below (by (with_reducible repeat (first | apply ZO | apply ZN | apply ZQ)); exact HO353.out) hb); have n2_ := Aside0.mk (ZC (by (with_reducible repeat (first | apply Zn | apply Zm | apply Zo)); exact HO357.out) hb); have n3_ := Aside0.mk (ZC (by (with_reducible repeat (first | apply Zn | apply Zm | apply Zo)); exact HO363.out) hb); have n4_ := Aside0.mk (Kd.R_below (by (with_reducible repeat (first | apply ZO | apply ZN | apply ZQ)); exact HO367.out) hb); have n5_ := Aside0.mk (ZC (by (with_reducible repeat (first | apply Zn | apply Zm | apply Zo)); exact HO371.out) hb); have n6_ := Aside0.mk (Zp (g := gb345) (o := .cells #[.int .i64 a0_0, .slice A0_1 l0_1.length c0_1] 24 (0, 0)) (by (with_reducible repeat (first | refine Zg ?_ _ | refine Zh ?_ | refine Zf ?_ _)); exact BK345.out) hb); have n7_ := Aside0.mk (Zp (g := gb359) (o := .cells #[.int .i64 t354, .slice Ao29 t355.length co29] 27 (0, 0)) (by (with_reducible repeat (first | refine Zg ?_ _ | refine Zh ?_ | refine Zf ?_ _)); exact BK359.out) hb); have n8_ := Aside0.mk (Zp (g := gb364) (o := .cells #[.int .i64 t360, .slice Ao36 t361.length co36] 27 (0, 0)) (by (with_reducible repeat (first | refine Zg ?_ _ | refine Zh ?_ | refine Zf ?_ _)); exact BK364.out) hb); have n9_ := Aside0.mk (Zu (by repeat (first | (with_reducible first | exact HB.out | apply Zj | apply Ze | apply Zi | refine Zd ?_ GE345.out | refine Zd ?_ GE359.out | refine Zd ?_ GE364.out) | exact HB.out)) hb); have n10_ := Aside0.mk (hbox); have n11_ := Aside0.mk ((by rw [hg]; exact (Zs (by repeat (first | (with_reducible first | exact HB.out | apply Zj | apply Ze | apply Zi | refine Zd ?_ GE345.out | refine Zd ?_ GE359.out | refine Zd ?_ GE364.out) | exact HB.out))) : w.heap.size ≤ gb373)); have n12_ := Aside0.mk ((by rw [hg]; exact (Zs (by repeat (first | (with_reducible first | exact HB.out | apply Zj | apply Ze | apply Zi | refine Zd ?_ GE345.out | refine Zd ?_ GE359.out | refine Zd ?_ GE364.out) | exact HB.out))) : w.heap.size ≤ gb373)); have n13_ := Aside0.mk ((by rw [hg]; exact Nat.ne_of_lt (blk_lt (g := gb345) (o := .cells #[.int .i64 a0_0, .slice A0_1 l0_1.length c0_1] 24 (0, 0)) (by (with_reducible repeat (first | refine Zg ?_ _ | refine Zh ?_ | refine Zf ?_ _)); exact BK345.out)) : gb345 ≠ gb373)); have n14_ := Aside0.mk ((by rw [hg]; exact Nat.ne_of_gt (blk_lt (g := gb345) (o := .cells #[.int .i64 a0_0, .slice A0_1 l0_1.length c0_1] 24 (0, 0)) (by (with_reducible repeat (first | refine Zg ?_ _ | refine Zh ?_ | refine Zf ?_ _)); exact BK345.out)) : gb373 ≠ gb345)); have n15_ := Aside0.mk ((by rw [hg]; exact Nat.ne_of_lt (blk_lt (g := gb359) (o := .cells #[.int .i64 t354, .slice Ao29 t355.length co29] 27 (0, 0)) (by (with_reducible repeat (first | refine Zg ?_ _ | refine Zh ?_ | refine Zf ?_ _)); exact BK359.out)) : gb359 ≠ gb373)); have n16_ := Aside0.mk ((by rw [hg]; exact Nat.ne_of_gt (blk_lt (g := gb359) (o := .cells #[.int .i64 t354, .slice Ao29 t355.length co29] 27 (0, 0)) (by (with_reducible repeat (first | refine Zg ?_ _ | refine Zh ?_ | refine Zf ?_ _)); exact BK359.out)) : gb373 ≠ gb359)); have n17_ := Aside0.mk ((by rw [hg]; exact Nat.ne_of_lt (blk_lt (g := gb364) (o := .cells #[.int .i64 t360, .slice Ao36 t361.length co36] 27 (0, 0)) (by (with_reducible repeat (first | refine Zg ?_ _ | refine Zh ?_ | refine Zf ?_ _)); exact BK364.out)) : gb364 ≠ gb373)); have n18_ := Aside0.mk ((by rw [hg]; exact Nat.ne_of_gt (blk_lt (g := gb364) (o := .cells #[.int .i64 t360, .slice Ao36 t361.length co36] 27 (0, 0)) (by (with_reducible repeat (first | refine Zg ?_ _ | refine Zh ?_ | refine Zf ?_ _)); exact BK364.out)) : gb373 ≠ gb364)); clear HO350; clear HO353; clear HO357; clear HO363; clear HO367; clear HO371; clear BK345; clear BK359; clear BK364; clear HB; have HO350 := n0_; have HO353 := n1_; have HO357 := n2_; have HO363 := n3_; have HO367 := n4_; have HO371 := n5_; have BK345 := n6_; have BK359 := n7_; have BK364 := n8_; have HB := n9_; have BK373 := n10_; have GW373 := n11_; have GE373 := n12_; have NB345_373 := n13_; have NB373_345 := n14_; have NB359_373 := n15_; have NB373_359 := n16_; have NB364_373 := n17_; have NB373_364 := n18_; clear n0_ n1_ n2_ n3_ n4_ n5_ n6_ n7_ n8_ n9_ n10_ n11_ n12_ n13_ n14_ n15_ n16_ n17_ n18_; clear hb hbox hg; have hnb42 := NB373_345.out; have hnc42 := NB345_373.out; have hnb43 := NB373_359.out; have hnc43 := NB359_373.out; have hnb44 := NB373_364.out; have hnc44 := NB364_373.out; have hcz45_0 : w41.cell? ⟨gb373, 0, none⟩ = some (.int .i64 0) := (Zk BK373.out 0).trans rfl; have hcz45_1 : w41.cell? ⟨gb373, 1, none⟩ = some (.slice none 0 0) := (Zk BK373.out 1).trans rfl; have hfz45_0 := Zl BK373.out 0; have hfz45_1 := Zl BK373.out 1; obtain ⟨Ao46, co46, eo46⟩ := Kd.S_slice HO371.out; subst eo46))
   (try simp only [Act.put, Za, Zb, Zc])
   go_cut [51] (fun v51 wc => ∃ (kq : Nat) (x51_15 : Bool), v51 = .bool x51_15 ∧ Aside0 (laws_FnExactRenamed.j0 kq l1 t358 t365 t372 x51_15 a0_0 l0_1 t354 t355 t360 t361 t368 t369 = some r) ∧ Aside0 (kq ≤ k) ∧ Aside0 (Kd.R (Kd.int .i64) 3 wc w.heap.size (fun _ => True) (.slice Ao39 t365.length co39) t365) ∧ Aside0 (Kd.S (KSp (fun k_ => ((nsp_HO357 ≤ k_) ∧ k_ < nsp_HO363) ∧ k_ < nsp_HO371) (Kd.slice 3 (Kd.int .i64))) 31 wc w.heap.size (fun k_ => some k_ ≠ ((.slice Ao39 t365.length co39) : Value).ownBlock ∧ some k_ ≠ ((.slice Ao36 t361.length co36) : Value).ownBlock ∧ some k_ ≠ ((.slice Ao46 t369.length co46) : Value).ownBlock) (.slice Ao29 t355.length co29) t355) ∧ Aside0 (Kd.S (KSp (fun k_ => (nsp_HO363 ≤ k_) ∧ k_ < nsp_HO371) (Kd.slice 3 (Kd.int .i64))) 31 wc w.heap.size (fun k_ => some k_ ≠ ((.slice Ao39 t365.length co39) : Value).ownBlock ∧ some k_ ≠ ((.slice Ao29 t355.length co29) : Value).ownBlock ∧ some k_ ≠ ((.slice Ao46 t369.length co46) : Value).ownBlock) (.slice Ao36 t361.length co36) t361) ∧ Aside0 (Kd.S (KSp (fun k_ => nsp_HO371 ≤ k_) (Kd.slice 3 (Kd.int .i64))) 31 wc w.heap.size (fun k_ => some k_ ≠ ((.slice Ao39 t365.length co39) : Value).ownBlock ∧ some k_ ≠ ((.slice Ao29 t355.length co29) : Value).ownBlock ∧ some k_ ≠ ((.slice Ao36 t361.length co36) : Value).ownBlock) (.slice Ao46 t369.length co46) t369) ∧ Aside0 (wc.heap[gb345]? = some (.cells #[.int .i64 a0_0, (.slice A0_1 l0_1.length c0_1)] 24 (0, 0))) ∧ Aside0 (wc.heap[gb359]? = some (.cells #[.int .i64 t354, (.slice Ao29 t355.length co29)] 27 (0, 0))) ∧ Aside0 (wc.heap[gb364]? = some (.cells #[.int .i64 t360, (.slice Ao36 t361.length co36)] 27 (0, 0))) ∧ Aside0 (wc.heap[gb373]? = some (.cells #[.int .i64 t368, (.slice Ao46 t369.length co46)] 27 (0, 0))) ∧ Aside0 (Below w.heap.size w wc))
   case first =>
    have H := HC16.out
    clear HC16
    replace H := Option.bind_eq_some_iff.mp H
    obtain ⟨t374, A470, H⟩ := H
    replace H : (if t374 = true then (laws_FnExactRenamed.j0 k l1 t358 t365 t372 (t372 != t358) a0_0 l0_1 t354 t355 t360 t361 t368 t369) else (laws_FnExactRenamed.j0 k l1 t358 t365 t372 true a0_0 l0_1 t354 t355 t360 t361 t368 t369)) = some r := H
    have A47 := Aside0.mk A470
    clear A470
    by_cases c48 : t374 = true
    ·subst c48
     have H1 : (laws_FnExactRenamed.j0 k l1 t358 t365 t372 (t372 != t358) a0_0 l0_1 t354 t355 t360 t361 t368 t369) = some r := by rw [if_pos rfl] at H; exact H
     clear H
     have H := H1
     clear H1
     have H' := Aside0.mk H
     clear H
     have hnb49 := NB373_345.out
     have hnc49 := NB345_373.out
     have hnb50 := NB373_359.out
     have hnc50 := NB359_373.out
     have hnb51 := NB373_364.out
     have hnc51 := NB364_373.out
     have hcz52_0 : w41.cell? ⟨gb373, 0, none⟩ = some (.int .i64 0) := (Zk BK373.out 0).trans rfl
     have hcz52_1 : w41.cell? ⟨gb373, 1, none⟩ = some (.slice none 0 0) := (Zk BK373.out 1).trans rfl
     have hfz52_0 := Zl BK373.out 0
     have hfz52_1 := Zl BK373.out 1
     have hnb53 := NB359_345.out
     have hnc53 := NB345_359.out
     have hnb54 := NB359_364.out
     have hnc54 := NB364_359.out
     have hcz55_0 : w41.cell? ⟨gb359, 0, none⟩ = some (.int .i64 t354) := (Zk BK359.out 0).trans rfl
     have hcz55_1 : w41.cell? ⟨gb359, 1, none⟩ = some (.slice Ao29 t355.length co29) := (Zk BK359.out 1).trans rfl
     have hfz55_0 := Zl BK359.out 0
     have hfz55_1 := Zl BK359.out 1
     go_wp2_with (first | ((with_reducible refine ZA (f := 13) rfl ?_); refine goesL_ (some 45) rfl rfl Try.func13 (by kernel_rfl) rfl #[.agg #[.int .i64 t368, .slice Ao46 t369.length co46], .agg #[.int .i64 t354, .slice Ao29 t355.length co29]] rfl (by (try simp only [List.map_toArray, List.map_cons, List.map_nil]); first | done | rfl | (simp only [List.length_drop, List.length_take]; rfl)) ?_; (with_reducible refine (laws_eqGraph.calls k t368 _ _ t369 t354 _ _ t355 true _ ?side1 ?side2 ?side3 ?side4 A47.out).mono ?_); (case side1 => exact (S_readsSp (e := 31) (base := w.heap.size) (ok := fun k_ => (((((True ∧ some k_ ≠ (.slice Ao23 t348.length co23 : Value).ownBlock) ∧ some k_ ≠ (.slice Ao24 t351.length co24 : Value).ownBlock) ∧ some k_ ≠ (.slice Ao29 t355.length co29 : Value).ownBlock) ∧ some k_ ≠ (.slice Ao36 t361.length co36 : Value).ownBlock) ∧ some k_ ≠ (.slice Ao39 t365.length co39 : Value).ownBlock)) (n := t369.length) (c := co46) (by (with_reducible repeat (first | apply Zn | apply Zm | apply Zo)); exact (Zy (ZB (p := ⟨gb373, 1, none⟩) (ZB (p := ⟨gb373, 0, none⟩) (ZJ HO371.out BK373.out (by first | decide | exact spE_ (by decide))) (fun _ hk => hk.2) (.int .i64 t368)) (fun _ hk => hk.2) (.slice Ao46 t369.length co46)) (fun _ h_ => h_.1)))).2.2); (case side2 => exact (ZF HO371.out).2.1); (case side3 => exact (S_readsSp (e := 31) (base := w.heap.size) (ok := fun k_ => (((((True ∧ some k_ ≠ (.slice Ao23 t348.length co23 : Value).ownBlock) ∧ some k_ ≠ (.slice Ao24 t351.length co24 : Value).ownBlock) ∧ some k_ ≠ (.slice Ao36 t361.length co36 : Value).ownBlock) ∧ some k_ ≠ (.slice Ao39 t365.length co39 : Value).ownBlock) ∧ some k_ ≠ (.slice Ao46 t369.length co46 : Value).ownBlock)) (n := t355.length) (c := co29) (by (with_reducible repeat (first | apply Zn | apply Zm | apply Zo)); exact (Zy (ZB (p := ⟨gb373, 1, none⟩) (ZB (p := ⟨gb373, 0, none⟩) (ZJ HO357.out BK373.out (by first | decide | exact spE_ (by decide))) (fun _ hk => hk.2) (.int .i64 t368)) (fun _ hk => hk.2) (.slice Ao46 t369.length co46)) (fun _ h_ => h_.1)))).2.2); (case side4 => exact (ZF HO357.out).2.1); rintro e w56 ⟨rfl, hb⟩; refine ⟨_, rfl, ?_⟩; have n0_ := Aside0.mk (ZC (by (with_reducible repeat (first | apply Zn | apply Zm | apply Zo)); exact (Zy (ZB (p := ⟨gb373, 1, none⟩) (ZB (p := ⟨gb373, 0, none⟩) (ZJ HO350.out BK373.out (by first | decide | exact spE_ (by decide))) (fun _ hk => hk.2) (.int .i64 t368)) (fun _ hk => hk.2) (.slice Ao46 t369.length co46)) (fun _ h_ => h_.1))) hb); have n1_ := Aside0.mk (Kd.R_below (by (with_reducible repeat (first | apply ZO | apply ZN | apply ZQ)); exact (ZR (Kd.R_far (p := ⟨gb373, 1, none⟩) (Kd.R_far (p := ⟨gb373, 0, none⟩) (Kd.R_types HO353.out BK373.out (by first | decide | exact spE_ (by decide))) (fun _ hk => hk.2) (.int .i64 t368)) (fun _ hk => hk.2) (.slice Ao46 t369.length co46)) (fun _ h_ => h_.1))) hb); have n2_ := Aside0.mk (ZC (by (with_reducible repeat (first | apply Zn | apply Zm | apply Zo)); exact (Zy (ZB (p := ⟨gb373, 1, none⟩) (ZB (p := ⟨gb373, 0, none⟩) (ZJ HO357.out BK373.out (by first | decide | exact spE_ (by decide))) (fun _ hk => hk.2) (.int .i64 t368)) (fun _ hk => hk.2) (.slice Ao46 t369.length co46)) (fun _ h_ => h_.1))) hb); have n3_ := Aside0.mk (ZC (by (with_reducible repeat (first | apply Zn | apply Zm | apply Zo)); exact (Zy (ZB (p := ⟨gb373, 1, none⟩) (ZB (p := ⟨gb373, 0, none⟩) (ZJ HO363.out BK373.out (by first | decide | exact spE_ (by decide))) (fun _ hk => hk.2) (.int .i64 t368)) (fun _ hk => hk.2) (.slice Ao46 t369.length co46)) (fun _ h_ => h_.1))) hb); have n4_ := Aside0.mk (Kd.R_below (by (with_reducible repeat (first | apply ZO | apply ZN | apply ZQ)); exact (ZR (Kd.R_far (p := ⟨gb373, 1, none⟩) (Kd.R_far (p := ⟨gb373, 0, none⟩) (Kd.R_types HO367.out BK373.out (by first | decide | exact spE_ (by decide))) (fun _ hk => hk.2) (.int .i64 t368)) (fun _ hk => hk.2) (.slice Ao46 t369.length co46)) (fun _ h_ => h_.1))) hb); have n5_ := Aside0.mk (ZC (by (with_reducible repeat (first | apply Zn | apply Zm | apply Zo)); exact (Zy (ZB (p := ⟨gb373, 1, none⟩) (ZB (p := ⟨gb373, 0, none⟩) (ZJ HO371.out BK373.out (by first | decide | exact spE_ (by decide))) (fun _ hk => hk.2) (.int .i64 t368)) (fun _ hk => hk.2) (.slice Ao46 t369.length co46)) (fun _ h_ => h_.1))) hb); have n6_ := Aside0.mk (Zp (g := gb345) (o := .cells #[.int .i64 a0_0, .slice A0_1 l0_1.length c0_1] 24 (0, 0)) (by (with_reducible repeat (first | refine Zg ?_ _ | refine Zh ?_ | refine Zf ?_ _)); refine ZP ?_ NB345_373.out _; (with_reducible repeat (first | refine Zg ?_ _ | refine Zh ?_ | refine Zf ?_ _)); refine ZP ?_ NB345_373.out _; (with_reducible repeat (first | refine Zg ?_ _ | refine Zh ?_ | refine Zf ?_ _)); exact BK345.out) hb); have n7_ := Aside0.mk (Zp (g := gb359) (o := .cells #[.int .i64 t354, .slice Ao29 t355.length co29] 27 (0, 0)) (by (with_reducible repeat (first | refine Zg ?_ _ | refine Zh ?_ | refine Zf ?_ _)); refine ZP ?_ NB359_373.out _; (with_reducible repeat (first | refine Zg ?_ _ | refine Zh ?_ | refine Zf ?_ _)); refine ZP ?_ NB359_373.out _; (with_reducible repeat (first | refine Zg ?_ _ | refine Zh ?_ | refine Zf ?_ _)); exact BK359.out) hb); have n8_ := Aside0.mk (Zp (g := gb364) (o := .cells #[.int .i64 t360, .slice Ao36 t361.length co36] 27 (0, 0)) (by (with_reducible repeat (first | refine Zg ?_ _ | refine Zh ?_ | refine Zf ?_ _)); refine ZP ?_ NB364_373.out _; (with_reducible repeat (first | refine Zg ?_ _ | refine Zh ?_ | refine Zf ?_ _)); refine ZP ?_ NB364_373.out _; (with_reducible repeat (first | refine Zg ?_ _ | refine Zh ?_ | refine Zf ?_ _)); exact BK364.out) hb); have n9_ := Aside0.mk (Zp (g := gb373) (o := .cells #[.int .i64 t368, .slice Ao46 t369.length co46] 27 (0, 0)) (by (with_reducible repeat (first | refine Zg ?_ _ | refine Zh ?_ | refine Zf ?_ _)); refine blk_put (cs := #[.int .i64 t368, .slice none 0 0]) ?_ 1 _ rfl; (with_reducible repeat (first | refine Zg ?_ _ | refine Zh ?_ | refine Zf ?_ _)); refine blk_put (cs := #[.int .i64 0, .slice none 0 0]) ?_ 0 _ rfl; (with_reducible repeat (first | refine Zg ?_ _ | refine Zh ?_ | refine Zf ?_ _)); exact BK373.out) hb); have n10_ := Aside0.mk (Zu (by repeat (first | (with_reducible first | exact HB.out | apply Zj | apply Ze | apply Zi | refine Zd ?_ GE345.out | refine Zd ?_ GE359.out | refine Zd ?_ GE364.out | refine Zd ?_ GE373.out) | exact HB.out)) hb); clear HO350; clear HO353; clear HO357; clear HO363; clear HO367; clear HO371; clear BK345; clear BK359; clear BK364; clear BK373; clear HB; have HO350 := n0_; have HO353 := n1_; have HO357 := n2_; have HO363 := n3_; have HO367 := n4_; have HO371 := n5_; have BK345 := n6_; have BK359 := n7_; have BK364 := n8_; have BK373 := n9_; have HB := n10_; clear n0_ n1_ n2_ n3_ n4_ n5_ n6_ n7_ n8_ n9_ n10_; (try clear hb); (try clear hb2); (try clear hk); (try clear hi)))
     go_meet
     case rel => exact ⟨_, ((t372 != t358)), (by first | rfl | (simp; done) | (simp [*]; done)), H', ⟨by first | omega | exact Nat.le_refl _⟩, ⟨by (with_reducible repeat (first | apply ZO | apply ZN | apply ZQ)); exact ZR HO367.out (fun _ hk => trivial)⟩, ⟨by (with_reducible repeat (first | apply Zn | apply Zm | apply Zo)); exact Zy HO357.out (fun _ hk => ⟨hk.1.2, ⟨hk.1.1.2, hk.2⟩⟩)⟩, ⟨by (with_reducible repeat (first | apply Zn | apply Zm | apply Zo)); exact Zy HO363.out (fun _ hk => ⟨hk.1.2, ⟨hk.1.1.2, hk.2⟩⟩)⟩, ⟨by (with_reducible repeat (first | apply Zn | apply Zm | apply Zo)); exact Zy HO371.out (fun _ hk => ⟨hk.2, ⟨hk.1.1.2, hk.1.2⟩⟩)⟩, ⟨by (with_reducible repeat (first | refine Zg ?_ _ | refine Zh ?_ | refine Zf ?_ _)); exact BK345.out⟩, ⟨by (with_reducible repeat (first | refine Zg ?_ _ | refine Zh ?_ | refine Zf ?_ _)); exact BK359.out⟩, ⟨by (with_reducible repeat (first | refine Zg ?_ _ | refine Zh ?_ | refine Zf ?_ _)); exact BK364.out⟩, ⟨by (with_reducible repeat (first | refine Zg ?_ _ | refine Zh ?_ | refine Zf ?_ _)); exact BK373.out⟩, ⟨by repeat (first | (with_reducible first | exact HB.out | apply Zj | apply Ze | apply Zi | refine Zd ?_ GE345.out | refine Zd ?_ GE359.out | refine Zd ?_ GE364.out | refine Zd ?_ GE373.out) | exact HB.out)⟩⟩
    ·replace c48 := Bool.eq_false_iff.mpr c48
     subst c48
     have H1 : (laws_FnExactRenamed.j0 k l1 t358 t365 t372 true a0_0 l0_1 t354 t355 t360 t361 t368 t369) = some r := by rw [if_neg (show ¬ (false = true) by decide)] at H; exact H
     clear H
     have H := H1
     clear H1
     have H' := Aside0.mk H
     clear H
     have hnb57 := NB373_345.out
     have hnc57 := NB345_373.out
     have hnb58 := NB373_359.out
     have hnc58 := NB359_373.out
     have hnb59 := NB373_364.out
     have hnc59 := NB364_373.out
     have hcz60_0 : w41.cell? ⟨gb373, 0, none⟩ = some (.int .i64 0) := (Zk BK373.out 0).trans rfl
     have hcz60_1 : w41.cell? ⟨gb373, 1, none⟩ = some (.slice none 0 0) := (Zk BK373.out 1).trans rfl
     have hfz60_0 := Zl BK373.out 0
     have hfz60_1 := Zl BK373.out 1
     have hnb61 := NB359_345.out
     have hnc61 := NB345_359.out
     have hnb62 := NB359_364.out
     have hnc62 := NB364_359.out
     have hcz63_0 : w41.cell? ⟨gb359, 0, none⟩ = some (.int .i64 t354) := (Zk BK359.out 0).trans rfl
     have hcz63_1 : w41.cell? ⟨gb359, 1, none⟩ = some (.slice Ao29 t355.length co29) := (Zk BK359.out 1).trans rfl
     have hfz63_0 := Zl BK359.out 0
     have hfz63_1 := Zl BK359.out 1
     go_wp2_with (first | ((with_reducible refine ZA (f := 13) rfl ?_); refine goesL_ (some 45) rfl rfl Try.func13 (by kernel_rfl) rfl #[.agg #[.int .i64 t368, .slice Ao46 t369.length co46], .agg #[.int .i64 t354, .slice Ao29 t355.length co29]] rfl (by (try simp only [List.map_toArray, List.map_cons, List.map_nil]); first | done | rfl | (simp only [List.length_drop, List.length_take]; rfl)) ?_; (with_reducible refine (laws_eqGraph.calls k t368 _ _ t369 t354 _ _ t355 false _ ?side1 ?side2 ?side3 ?side4 A47.out).mono ?_); (case side1 => exact (S_readsSp (e := 31) (base := w.heap.size) (ok := fun k_ => (((((True ∧ some k_ ≠ (.slice Ao23 t348.length co23 : Value).ownBlock) ∧ some k_ ≠ (.slice Ao24 t351.length co24 : Value).ownBlock) ∧ some k_ ≠ (.slice Ao29 t355.length co29 : Value).ownBlock) ∧ some k_ ≠ (.slice Ao36 t361.length co36 : Value).ownBlock) ∧ some k_ ≠ (.slice Ao39 t365.length co39 : Value).ownBlock)) (n := t369.length) (c := co46) (by (with_reducible repeat (first | apply Zn | apply Zm | apply Zo)); exact (Zy (ZB (p := ⟨gb373, 1, none⟩) (ZB (p := ⟨gb373, 0, none⟩) (ZJ HO371.out BK373.out (by first | decide | exact spE_ (by decide))) (fun _ hk => hk.2) (.int .i64 t368)) (fun _ hk => hk.2) (.slice Ao46 t369.length co46)) (fun _ h_ => h_.1)))).2.2); (case side2 => exact (ZF HO371.out).2.1); (case side3 => exact (S_readsSp (e := 31) (base := w.heap.size) (ok := fun k_ => (((((True ∧ some k_ ≠ (.slice Ao23 t348.length co23 : Value).ownBlock) ∧ some k_ ≠ (.slice Ao24 t351.length co24 : Value).ownBlock) ∧ some k_ ≠ (.slice Ao36 t361.length co36 : Value).ownBlock) ∧ some k_ ≠ (.slice Ao39 t365.length co39 : Value).ownBlock) ∧ some k_ ≠ (.slice Ao46 t369.length co46 : Value).ownBlock)) (n := t355.length) (c := co29) (by (with_reducible repeat (first | apply Zn | apply Zm | apply Zo)); exact (Zy (ZB (p := ⟨gb373, 1, none⟩) (ZB (p := ⟨gb373, 0, none⟩) (ZJ HO357.out BK373.out (by first | decide | exact spE_ (by decide))) (fun _ hk => hk.2) (.int .i64 t368)) (fun _ hk => hk.2) (.slice Ao46 t369.length co46)) (fun _ h_ => h_.1)))).2.2); (case side4 => exact (ZF HO357.out).2.1); rintro e w64 ⟨rfl, hb⟩; refine ⟨_, rfl, ?_⟩; have n0_ := Aside0.mk (ZC (by (with_reducible repeat (first | apply Zn | apply Zm | apply Zo)); exact (Zy (ZB (p := ⟨gb373, 1, none⟩) (ZB (p := ⟨gb373, 0, none⟩) (ZJ HO350.out BK373.out (by first | decide | exact spE_ (by decide))) (fun _ hk => hk.2) (.int .i64 t368)) (fun _ hk => hk.2) (.slice Ao46 t369.length co46)) (fun _ h_ => h_.1))) hb); have n1_ := Aside0.mk (Kd.R_below (by (with_reducible repeat (first | apply ZO | apply ZN | apply ZQ)); exact (ZR (Kd.R_far (p := ⟨gb373, 1, none⟩) (Kd.R_far (p := ⟨gb373, 0, none⟩) (Kd.R_types HO353.out BK373.out (by first | decide | exact spE_ (by decide))) (fun _ hk => hk.2) (.int .i64 t368)) (fun _ hk => hk.2) (.slice Ao46 t369.length co46)) (fun _ h_ => h_.1))) hb); have n2_ := Aside0.mk (ZC (by (with_reducible repeat (first | apply Zn | apply Zm | apply Zo)); exact (Zy (ZB (p := ⟨gb373, 1, none⟩) (ZB (p := ⟨gb373, 0, none⟩) (ZJ HO357.out BK373.out (by first | decide | exact spE_ (by decide))) (fun _ hk => hk.2) (.int .i64 t368)) (fun _ hk => hk.2) (.slice Ao46 t369.length co46)) (fun _ h_ => h_.1))) hb); have n3_ := Aside0.mk (ZC (by (with_reducible repeat (first | apply Zn | apply Zm | apply Zo)); exact (Zy (ZB (p := ⟨gb373, 1, none⟩) (ZB (p := ⟨gb373, 0, none⟩) (ZJ HO363.out BK373.out (by first | decide | exact spE_ (by decide))) (fun _ hk => hk.2) (.int .i64 t368)) (fun _ hk => hk.2) (.slice Ao46 t369.length co46)) (fun _ h_ => h_.1))) hb); have n4_ := Aside0.mk (Kd.R_below (by (with_reducible repeat (first | apply ZO | apply ZN | apply ZQ)); exact (ZR (Kd.R_far (p := ⟨gb373, 1, none⟩) (Kd.R_far (p := ⟨gb373, 0, none⟩) (Kd.R_types HO367.out BK373.out (by first | decide | exact spE_ (by decide))) (fun _ hk => hk.2) (.int .i64 t368)) (fun _ hk => hk.2) (.slice Ao46 t369.length co46)) (fun _ h_ => h_.1))) hb); have n5_ := Aside0.mk (ZC (by (with_reducible repeat (first | apply Zn | apply Zm | apply Zo)); exact (Zy (ZB (p := ⟨gb373, 1, none⟩) (ZB (p := ⟨gb373, 0, none⟩) (ZJ HO371.out BK373.out (by first | decide | exact spE_ (by decide))) (fun _ hk => hk.2) (.int .i64 t368)) (fun _ hk => hk.2) (.slice Ao46 t369.length co46)) (fun _ h_ => h_.1))) hb); have n6_ := Aside0.mk (Zp (g := gb345) (o := .cells #[.int .i64 a0_0, .slice A0_1 l0_1.length c0_1] 24 (0, 0)) (by (with_reducible repeat (first | refine Zg ?_ _ | refine Zh ?_ | refine Zf ?_ _)); refine ZP ?_ NB345_373.out _; (with_reducible repeat (first | refine Zg ?_ _ | refine Zh ?_ | refine Zf ?_ _)); refine ZP ?_ NB345_373.out _; (with_reducible repeat (first | refine Zg ?_ _ | refine Zh ?_ | refine Zf ?_ _)); exact BK345.out) hb); have n7_ := Aside0.mk (Zp (g := gb359) (o := .cells #[.int .i64 t354, .slice Ao29 t355.length co29] 27 (0, 0)) (by (with_reducible repeat (first | refine Zg ?_ _ | refine Zh ?_ | refine Zf ?_ _)); refine ZP ?_ NB359_373.out _; (with_reducible repeat (first | refine Zg ?_ _ | refine Zh ?_ | refine Zf ?_ _)); refine ZP ?_ NB359_373.out _; (with_reducible repeat (first | refine Zg ?_ _ | refine Zh ?_ | refine Zf ?_ _)); exact BK359.out) hb); have n8_ := Aside0.mk (Zp (g := gb364) (o := .cells #[.int .i64 t360, .slice Ao36 t361.length co36] 27 (0, 0)) (by (with_reducible repeat (first | refine Zg ?_ _ | refine Zh ?_ | refine Zf ?_ _)); refine ZP ?_ NB364_373.out _; (with_reducible repeat (first | refine Zg ?_ _ | refine Zh ?_ | refine Zf ?_ _)); refine ZP ?_ NB364_373.out _; (with_reducible repeat (first | refine Zg ?_ _ | refine Zh ?_ | refine Zf ?_ _)); exact BK364.out) hb); have n9_ := Aside0.mk (Zp (g := gb373) (o := .cells #[.int .i64 t368, .slice Ao46 t369.length co46] 27 (0, 0)) (by (with_reducible repeat (first | refine Zg ?_ _ | refine Zh ?_ | refine Zf ?_ _)); refine blk_put (cs := #[.int .i64 t368, .slice none 0 0]) ?_ 1 _ rfl; (with_reducible repeat (first | refine Zg ?_ _ | refine Zh ?_ | refine Zf ?_ _)); refine blk_put (cs := #[.int .i64 0, .slice none 0 0]) ?_ 0 _ rfl; (with_reducible repeat (first | refine Zg ?_ _ | refine Zh ?_ | refine Zf ?_ _)); exact BK373.out) hb); have n10_ := Aside0.mk (Zu (by repeat (first | (with_reducible first | exact HB.out | apply Zj | apply Ze | apply Zi | refine Zd ?_ GE345.out | refine Zd ?_ GE359.out | refine Zd ?_ GE364.out | refine Zd ?_ GE373.out) | exact HB.out)) hb); clear HO350; clear HO353; clear HO357; clear HO363; clear HO367; clear HO371; clear BK345; clear BK359; clear BK364; clear BK373; clear HB; have HO350 := n0_; have HO353 := n1_; have HO357 := n2_; have HO363 := n3_; have HO367 := n4_; have HO371 := n5_; have BK345 := n6_; have BK359 := n7_; have BK364 := n8_; have BK373 := n9_; have HB := n10_; clear n0_ n1_ n2_ n3_ n4_ n5_ n6_ n7_ n8_ n9_ n10_; (try clear hb); (try clear hb2); (try clear hk); (try clear hi)))
     go_meet
     case rel => exact ⟨_, (true), (by first | rfl | (simp; done) | (simp [*]; done)), H', ⟨by first | omega | exact Nat.le_refl _⟩, ⟨by (with_reducible repeat (first | apply ZO | apply ZN | apply ZQ)); exact ZR HO367.out (fun _ hk => trivial)⟩, ⟨by (with_reducible repeat (first | apply Zn | apply Zm | apply Zo)); exact Zy HO357.out (fun _ hk => ⟨hk.1.2, ⟨hk.1.1.2, hk.2⟩⟩)⟩, ⟨by (with_reducible repeat (first | apply Zn | apply Zm | apply Zo)); exact Zy HO363.out (fun _ hk => ⟨hk.1.2, ⟨hk.1.1.2, hk.2⟩⟩)⟩, ⟨by (with_reducible repeat (first | apply Zn | apply Zm | apply Zo)); exact Zy HO371.out (fun _ hk => ⟨hk.2, ⟨hk.1.1.2, hk.1.2⟩⟩)⟩, ⟨by (with_reducible repeat (first | refine Zg ?_ _ | refine Zh ?_ | refine Zf ?_ _)); exact BK345.out⟩, ⟨by (with_reducible repeat (first | refine Zg ?_ _ | refine Zh ?_ | refine Zf ?_ _)); exact BK359.out⟩, ⟨by (with_reducible repeat (first | refine Zg ?_ _ | refine Zh ?_ | refine Zf ?_ _)); exact BK364.out⟩, ⟨by (with_reducible repeat (first | refine Zg ?_ _ | refine Zh ?_ | refine Zf ?_ _)); exact BK373.out⟩, ⟨by repeat (first | (with_reducible first | exact HB.out | apply Zj | apply Ze | apply Zi | refine Zd ?_ GE345.out | refine Zd ?_ GE359.out | refine Zd ?_ GE364.out | refine Zd ?_ GE373.out) | exact HB.out)⟩⟩
   case rest =>
    clear HC16
    try clear c1
    try clear c2
    try clear p2
    try clear c3
    try clear c3b0
    try clear c3b1
    try clear c4
    try clear c5
    try clear c6
    try clear c6b0
    try clear c8
    try clear c9
    try clear c11
    try clear c13
    try clear c15
    try clear c27
    try clear c33
    try clear c34
    try clear c42
    try clear c43
    try clear c44
    try clear c48
    try clear c49
    try clear c50
    try clear c51
    try clear c52
    try clear c53
    try clear c54
    try clear c57
    try clear c58
    try clear c59
    try clear c61
    try clear c62
    try clear hcz18_0
    try clear hcz18_1
    try clear hcz20_0
    try clear hcz20_1
    try clear hcz28_0
    try clear hcz28_1
    try clear hcz30_0
    try clear hcz30_1
    try clear hcz35_0
    try clear hcz35_1
    try clear hcz38_0
    try clear hcz38_1
    try clear hcz45_0
    try clear hcz45_1
    try clear hcz52_0
    try clear hcz52_1
    try clear hcz55_0
    try clear hcz55_1
    try clear hcz60_0
    try clear hcz60_1
    try clear hcz63_0
    try clear hcz63_1
    try clear hcz8_0
    try clear hcz8_1
    try clear hfz18_0
    try clear hfz18_1
    try clear hfz20_0
    try clear hfz20_1
    try clear hfz28_0
    try clear hfz28_1
    try clear hfz30_0
    try clear hfz30_1
    try clear hfz35_0
    try clear hfz35_1
    try clear hfz38_0
    try clear hfz38_1
    try clear hfz45_0
    try clear hfz45_1
    try clear hfz52_0
    try clear hfz52_1
    try clear hfz55_0
    try clear hfz55_1
    try clear hfz60_0
    try clear hfz60_1
    try clear hfz63_0
    try clear hfz63_1
    try clear hfz8_0
    try clear hfz8_1
    obtain ⟨kq, x51_15, rfl, HA, HJ15, HO_9, HO_360001, HO_365001, HO_374001, BK345, BK359, BK364, BK373, HB⟩ := hcut
    cases kq with
    | zero => exact absurd HA.out (by simp [laws_FnExactRenamed.j0])
    | succ kj15 =>
     have H := HA.out
     clear HA
     simp only [laws_FnExactRenamed.j0] at H
     by_cases c65 : x51_15 = true
     ·subst c65
      have H1 : (some false) = some r := by rw [if_pos rfl] at H; exact H
      clear H
      have H := H1
      clear H1
      obtain rfl := Option.some.inj H
      go_wp2
      all_goals go_ret
      all_goals exact ⟨by first | rfl | (simp [errW_none, errW_some] <;> rfl) | (simp [*, errW_none, errW_some] <;> rfl), by repeat (first | (with_reducible first | exact HB.out | apply Zj | apply Ze | apply Zi | refine Zd ?_ GE345.out | refine Zd ?_ GE359.out | refine Zd ?_ GE364.out | refine Zd ?_ GE373.out) | exact HB.out)⟩
     ·replace c65 := Bool.eq_false_iff.mpr c65
      subst c65
      have H1 : ((laws_toGraph.f kj15 a0_0 l0_1).bind fun bt375 => ((laws_eqGraph.f kj15 t360 t361 bt375.1 bt375.2).bind fun t379 => (if t379 = true then ((laws_toIntS.f kj15 l1).bind fun t380 => ((laws_eqIntS.f kj15 t365 t380).bind fun t383 => (if t383 = true then ((laws_markGraph.f kj15 t360 t361 1).bind fun bt384 => ((laws_markIntS.f kj15 t365 bt384.1).bind fun bt386 => (if bt386.1 < 0 then (laws_FnExactRenamed.j1 kj15 l1 t358 true a0_0 l0_1 t354 t355 t368 t369) else ((laws_eqGraph.f kj15 t368 t369 t354 t355).bind fun t388 => (if t388 = true then (laws_FnExactRenamed.j1 kj15 l1 t358 (t372 != t358) a0_0 l0_1 t354 t355 t368 t369) else (laws_FnExactRenamed.j1 kj15 l1 t358 true a0_0 l0_1 t354 t355 t368 t369)))))) else (some false)))) else (some false)))) = some r := by rw [if_neg (show ¬ (false = true) by decide)] at H; exact H
      clear H
      have H := H1
      clear H1
      replace H := Option.bind_eq_some_iff.mp H
      obtain ⟨⟨t375, t376⟩, A660, H⟩ := H
      replace H : ((laws_eqGraph.f kj15 t360 t361 t375 t376).bind fun t379 => (if t379 = true then ((laws_toIntS.f kj15 l1).bind fun t380 => ((laws_eqIntS.f kj15 t365 t380).bind fun t383 => (if t383 = true then ((laws_markGraph.f kj15 t360 t361 1).bind fun bt384 => ((laws_markIntS.f kj15 t365 bt384.1).bind fun bt386 => (if bt386.1 < 0 then (laws_FnExactRenamed.j1 kj15 l1 t358 true a0_0 l0_1 t354 t355 t368 t369) else ((laws_eqGraph.f kj15 t368 t369 t354 t355).bind fun t388 => (if t388 = true then (laws_FnExactRenamed.j1 kj15 l1 t358 (t372 != t358) a0_0 l0_1 t354 t355 t368 t369) else (laws_FnExactRenamed.j1 kj15 l1 t358 true a0_0 l0_1 t354 t355 t368 t369)))))) else (some false)))) else (some false))) = some r := H
      have A66 := Aside0.mk A660
      clear A660
      replace H := Option.bind_eq_some_iff.mp H
      obtain ⟨t379, A670, H⟩ := H
      replace H : (if t379 = true then ((laws_toIntS.f kj15 l1).bind fun t380 => ((laws_eqIntS.f kj15 t365 t380).bind fun t383 => (if t383 = true then ((laws_markGraph.f kj15 t360 t361 1).bind fun bt384 => ((laws_markIntS.f kj15 t365 bt384.1).bind fun bt386 => (if bt386.1 < 0 then (laws_FnExactRenamed.j1 kj15 l1 t358 true a0_0 l0_1 t354 t355 t368 t369) else ((laws_eqGraph.f kj15 t368 t369 t354 t355).bind fun t388 => (if t388 = true then (laws_FnExactRenamed.j1 kj15 l1 t358 (t372 != t358) a0_0 l0_1 t354 t355 t368 t369) else (laws_FnExactRenamed.j1 kj15 l1 t358 true a0_0 l0_1 t354 t355 t368 t369)))))) else (some false)))) else (some false)) = some r := H
      have A67 := Aside0.mk A670
      clear A670
      by_cases c68 : t379 = true
      ·subst c68
       have H1 : ((laws_toIntS.f kj15 l1).bind fun t380 => ((laws_eqIntS.f kj15 t365 t380).bind fun t383 => (if t383 = true then ((laws_markGraph.f kj15 t360 t361 1).bind fun bt384 => ((laws_markIntS.f kj15 t365 bt384.1).bind fun bt386 => (if bt386.1 < 0 then (laws_FnExactRenamed.j1 kj15 l1 t358 true a0_0 l0_1 t354 t355 t368 t369) else ((laws_eqGraph.f kj15 t368 t369 t354 t355).bind fun t388 => (if t388 = true then (laws_FnExactRenamed.j1 kj15 l1 t358 (t372 != t358) a0_0 l0_1 t354 t355 t368 t369) else (laws_FnExactRenamed.j1 kj15 l1 t358 true a0_0 l0_1 t354 t355 t368 t369)))))) else (some false)))) = some r := by rw [if_pos rfl] at H; exact H
       clear H
       have H := H1
       clear H1
       replace H := Option.bind_eq_some_iff.mp H
       obtain ⟨t380, A690, H⟩ := H
       replace H : ((laws_eqIntS.f kj15 t365 t380).bind fun t383 => (if t383 = true then ((laws_markGraph.f kj15 t360 t361 1).bind fun bt384 => ((laws_markIntS.f kj15 t365 bt384.1).bind fun bt386 => (if bt386.1 < 0 then (laws_FnExactRenamed.j1 kj15 l1 t358 true a0_0 l0_1 t354 t355 t368 t369) else ((laws_eqGraph.f kj15 t368 t369 t354 t355).bind fun t388 => (if t388 = true then (laws_FnExactRenamed.j1 kj15 l1 t358 (t372 != t358) a0_0 l0_1 t354 t355 t368 t369) else (laws_FnExactRenamed.j1 kj15 l1 t358 true a0_0 l0_1 t354 t355 t368 t369)))))) else (some false))) = some r := H
       have A69 := Aside0.mk A690
       clear A690
       replace H := Option.bind_eq_some_iff.mp H
       obtain ⟨t383, A700, H⟩ := H
       replace H : (if t383 = true then ((laws_markGraph.f kj15 t360 t361 1).bind fun bt384 => ((laws_markIntS.f kj15 t365 bt384.1).bind fun bt386 => (if bt386.1 < 0 then (laws_FnExactRenamed.j1 kj15 l1 t358 true a0_0 l0_1 t354 t355 t368 t369) else ((laws_eqGraph.f kj15 t368 t369 t354 t355).bind fun t388 => (if t388 = true then (laws_FnExactRenamed.j1 kj15 l1 t358 (t372 != t358) a0_0 l0_1 t354 t355 t368 t369) else (laws_FnExactRenamed.j1 kj15 l1 t358 true a0_0 l0_1 t354 t355 t368 t369)))))) else (some false)) = some r := H
       have A70 := Aside0.mk A700
       clear A700
       by_cases c71 : t383 = true
       ·subst c71
        have H1 : ((laws_markGraph.f kj15 t360 t361 1).bind fun bt384 => ((laws_markIntS.f kj15 t365 bt384.1).bind fun bt386 => (if bt386.1 < 0 then (laws_FnExactRenamed.j1 kj15 l1 t358 true a0_0 l0_1 t354 t355 t368 t369) else ((laws_eqGraph.f kj15 t368 t369 t354 t355).bind fun t388 => (if t388 = true then (laws_FnExactRenamed.j1 kj15 l1 t358 (t372 != t358) a0_0 l0_1 t354 t355 t368 t369) else (laws_FnExactRenamed.j1 kj15 l1 t358 true a0_0 l0_1 t354 t355 t368 t369)))))) = some r := by rw [if_pos rfl] at H; exact H
        clear H
        have H := H1
        clear H1
        replace H := Option.bind_eq_some_iff.mp H
        obtain ⟨⟨t384, t385⟩, A720, H⟩ := H
        replace H : ((laws_markIntS.f kj15 t365 t384).bind fun bt386 => (if bt386.1 < 0 then (laws_FnExactRenamed.j1 kj15 l1 t358 true a0_0 l0_1 t354 t355 t368 t369) else ((laws_eqGraph.f kj15 t368 t369 t354 t355).bind fun t388 => (if t388 = true then (laws_FnExactRenamed.j1 kj15 l1 t358 (t372 != t358) a0_0 l0_1 t354 t355 t368 t369) else (laws_FnExactRenamed.j1 kj15 l1 t358 true a0_0 l0_1 t354 t355 t368 t369))))) = some r := H
        have A72 := Aside0.mk A720
        clear A720
        replace H := Option.bind_eq_some_iff.mp H
        obtain ⟨⟨t386, t387⟩, A730, H⟩ := H
        replace H : (if t386 < 0 then (laws_FnExactRenamed.j1 kj15 l1 t358 true a0_0 l0_1 t354 t355 t368 t369) else ((laws_eqGraph.f kj15 t368 t369 t354 t355).bind fun t388 => (if t388 = true then (laws_FnExactRenamed.j1 kj15 l1 t358 (t372 != t358) a0_0 l0_1 t354 t355 t368 t369) else (laws_FnExactRenamed.j1 kj15 l1 t358 true a0_0 l0_1 t354 t355 t368 t369)))) = some r := H
        have A73 := Aside0.mk A730
        clear A730
        have HC74 := Aside0.mk H
        clear H
        try go_wp2
        have n0_ := Aside0.mk (ZQ HO_9.out)
        have n1_ := Aside0.mk (Zo HO_360001.out)
        have n2_ := Aside0.mk (Zo HO_365001.out)
        have n3_ := Aside0.mk (Zo HO_374001.out)
        have n4_ := Aside0.mk (Zh BK345.out)
        have n5_ := Aside0.mk (Zh BK359.out)
        have n6_ := Aside0.mk (Zh BK364.out)
        have n7_ := Aside0.mk (Zh BK373.out)
        have n8_ := Aside0.mk (Zi HB.out)
        clear HO_9
        clear HO_360001
        clear HO_365001
        clear HO_374001
        clear BK345
        clear BK359
        clear BK364
        clear BK373
        clear HB
        have HO_9 := n0_
        have HO_360001 := n1_
        have HO_365001 := n2_
        have HO_374001 := n3_
        have BK345 := n4_
        have BK359 := n5_
        have BK364 := n6_
        have BK373 := n7_
        have HB := n8_
        clear n0_ n1_ n2_ n3_ n4_ n5_ n6_ n7_ n8_
        refine start_ (n := 5) (S := fun w' => w'.cell? ⟨gb364, 0, none⟩ = some (.int .i64 t360) ∧ w'.cell? ⟨gb364, 1, none⟩ = some (.slice Ao36 t361.length co36) ∧ w'.cell? ⟨gb345, 0, none⟩ = some (.int .i64 a0_0) ∧ w'.cell? ⟨gb345, 1, none⟩ = some (.slice A0_1 l0_1.length c0_1)) (ds := []) #[O,O,O,O,O] (by kernel_rfl) rfl rfl ⟨(Zk BK364.out 0).trans rfl, (Zk BK364.out 1).trans rfl, (Zk BK345.out 0).trans rfl, (Zk BK345.out 1).trans rfl⟩ (fun hHeld => ?_)
        generalize wc.drew = w75 at HO_9 HO_360001 HO_365001 HO_374001 BK345 BK359 BK364 BK373 HB hHeld ⊢
        refine take_ (i := 0) (N := some 52) (v := ?_) (a' := ?_) #[Y,O,O,O,O] rfl rfl (by kernel_rfl) (fun _ _ _ h => h) (Or.inl ⟨by rfl, ?_⟩) hHeld ?_ ?_
        rotate_left
        ·rintro w' ⟨s0, s1, s2, s3⟩
         go_simp
         with_reducible rfl
        rotate_left
        ·simp only [Act.put, Za, Zb, Zc, Zq, Zr]
         rfl
        refine take_ (i := 1) (N := some 53) (v := ?_) (a' := ?_) #[Y,Y,O,O,O] rfl rfl (by kernel_rfl) (fun _ _ _ h => h) (Or.inl ⟨by rfl, ?_⟩) hHeld ?_ ?_
        rotate_left
        ·rintro w' ⟨s0, s1, s2, s3⟩
         go_simp
         with_reducible rfl
        rotate_left
        ·simp only [Act.put, Za, Zb, Zc, Zq, Zr]
         rfl
        refine one_ (i := 2) (N := some 54) #[Y,Y,Y,O,O] rfl rfl (by kernel_rfl) (by first | decide | exact spE_ (by decide)) (fun K hK => ?_)
        refine goes_ Try.func11 (by kernel_rfl) rfl #[.agg #[.int .i64 a0_0, .slice A0_1 l0_1.length c0_1]] (by rfl) rfl rfl (by (try simp only [List.map_toArray, List.map_cons, List.map_nil]); first | done | rfl | (simp only [List.length_drop, List.length_take]; rfl)) ?_
        with_reducible refine (laws_toGraph.calls kj15 a0_0 _ _ l0_1 t375 t376 _ ?side1 ?side2 A66.out).mono ?_
        (case side1 => repeat (first | exact (ZG HR0_1.out HB.out) | (with_reducible refine Zw ?_ _) | (with_reducible refine Zv ?_ _) | (with_reducible refine Zz ?_)))
        (case side2 => exact HC0_1.out)
        rintro e w76 ⟨v377, rfl, ho0, hb⟩
        refine ⟨_, rfl, ?_⟩
        obtain ⟨nsp_HO378, hnsp_HO378, ho0⟩ := S_newSp ho0
        have n0_ := Aside0.mk (Kd.R_below (by (with_reducible repeat (first | apply ZO | apply ZN | apply ZQ)); exact HO_9.out) hb)
        have n1_ := Aside0.mk (ZK ((S_oldSp (by (with_reducible repeat (first | apply Zn | apply Zm | apply Zo)); exact HO_360001.out) hnsp_HO378)) (Kd.S_base ho0) hb)
        have n2_ := Aside0.mk (ZK ((S_oldSp (by (with_reducible repeat (first | apply Zn | apply Zm | apply Zo)); exact HO_365001.out) hnsp_HO378)) (Kd.S_base ho0) hb)
        have n3_ := Aside0.mk (ZK ((S_oldSp (by (with_reducible repeat (first | apply Zn | apply Zm | apply Zo)); exact HO_374001.out) hnsp_HO378)) (Kd.S_base ho0) hb)
        have n4_ := Aside0.mk (Kd.S_lower (Kd.S_new' (Kd.S_new' (Kd.S_new' (Kd.S_new' ho0 (Kd.R_lt (by (with_reducible repeat (first | apply ZO | apply ZN | apply ZQ)); exact HO_9.out))) (Kd.S_lt (by (with_reducible repeat (first | apply Zn | apply Zm | apply Zo)); exact HO_360001.out))) (Kd.S_lt (by (with_reducible repeat (first | apply Zn | apply Zm | apply Zo)); exact HO_365001.out))) (Kd.S_lt (by (with_reducible repeat (first | apply Zn | apply Zm | apply Zo)); exact HO_374001.out))) (Zs (by repeat (first | (with_reducible first | exact HB.out | apply Zj | apply Ze | apply Zi | refine Zd ?_ GE345.out | refine Zd ?_ GE359.out | refine Zd ?_ GE364.out | refine Zd ?_ GE373.out) | exact HB.out))))
        have n5_ := Aside0.mk (Zp (g := gb345) (o := .cells #[.int .i64 a0_0, .slice A0_1 l0_1.length c0_1] 24 (0, 0)) (by (with_reducible repeat (first | refine Zg ?_ _ | refine Zh ?_ | refine Zf ?_ _)); exact BK345.out) hb)
        have n6_ := Aside0.mk (Zp (g := gb359) (o := .cells #[.int .i64 t354, .slice Ao29 t355.length co29] 27 (0, 0)) (by (with_reducible repeat (first | refine Zg ?_ _ | refine Zh ?_ | refine Zf ?_ _)); exact BK359.out) hb)
        have n7_ := Aside0.mk (Zp (g := gb364) (o := .cells #[.int .i64 t360, .slice Ao36 t361.length co36] 27 (0, 0)) (by (with_reducible repeat (first | refine Zg ?_ _ | refine Zh ?_ | refine Zf ?_ _)); exact BK364.out) hb)
        have n8_ := Aside0.mk (Zp (g := gb373) (o := .cells #[.int .i64 t368, .slice Ao46 t369.length co46] 27 (0, 0)) (by (with_reducible repeat (first | refine Zg ?_ _ | refine Zh ?_ | refine Zf ?_ _)); exact BK373.out) hb)
        have n9_ := Aside0.mk (Zu (by repeat (first | (with_reducible first | exact HB.out | apply Zj | apply Ze | apply Zi | refine Zd ?_ GE345.out | refine Zd ?_ GE359.out | refine Zd ?_ GE364.out | refine Zd ?_ GE373.out) | exact HB.out)) hb)
        clear HO_9
        clear HO_360001
        clear HO_365001
        clear HO_374001
        clear BK345
        clear BK359
        clear BK364
        clear BK373
        clear HB
        have HO_9 := n0_
        have HO_360001 := n1_
        have HO_365001 := n2_
        have HO_374001 := n3_
        have HO378 := n4_
        have BK345 := n5_
        have BK359 := n6_
        have BK364 := n7_
        have BK373 := n8_
        have HB := n9_
        clear n0_ n1_ n2_ n3_ n4_ n5_ n6_ n7_ n8_ n9_
        (try clear hb)
        (try clear hb2)
        (try clear hk)
        (try clear hi)
        (try clear ho0)
        obtain ⟨Ao77, co77, eo77⟩ := Kd.S_slice HO378.out
        (first | subst eo77 | (injection eo77 with f1_ f2_ f3_; have f4_ := f1_.symm; have f5_ := f3_.symm; clear f1_ f2_ f3_; subst f4_; subst f5_))
        refine hK.out _ _ ⟨(Zk BK364.out 0).trans rfl, (Zk BK364.out 1).trans rfl, (Zk BK345.out 0).trans rfl, (Zk BK345.out 1).trans rfl⟩ (fun hHeld => ?_)
        clear hK K
        refine norm_ (a' := ?_) ?_ ?_
        rotate_left
        ·show Act.put _ (some 54) _ = _
         simp only [Act.put, Za, Zb, Zc, Zq, Zr]
         rfl
        refine one_ (i := 3) (N := some 55) #[Y,Y,Y,Y,O] rfl rfl (by kernel_rfl) (by first | decide | exact spE_ (by decide)) (fun K hK => ?_)
        refine goes_ Try.func13 (by kernel_rfl) rfl #[.agg #[.int .i64 t360, .slice Ao36 t361.length co36], .agg #[.int .i64 t375, .slice Ao77 t376.length co77]] (by rfl) rfl rfl (by (try simp only [List.map_toArray, List.map_cons, List.map_nil]); first | done | rfl | (simp only [List.length_drop, List.length_take]; rfl)) ?_
        with_reducible refine (laws_eqGraph.calls kj15 t360 _ _ t361 t375 _ _ t376 true _ ?side1 ?side2 ?side3 ?side4 A67.out).mono ?_
        (case side1 => repeat (first | exact (ZF HO_365001.out).2.2 | (with_reducible refine Zw ?_ _) | (with_reducible refine Zv ?_ _) | (with_reducible refine Zz ?_)))
        (case side2 => exact (ZF HO_365001.out).2.1)
        (case side3 => repeat (first | exact (ZF HO378.out).2.2 | (with_reducible refine Zw ?_ _) | (with_reducible refine Zv ?_ _) | (with_reducible refine Zz ?_)))
        (case side4 => exact (ZF HO378.out).2.1)
        rintro e w78 ⟨rfl, hb⟩
        refine ⟨_, rfl, ?_⟩
        have n0_ := Aside0.mk (Kd.R_below (by (with_reducible repeat (first | apply ZO | apply ZN | apply ZQ)); exact HO_9.out) hb)
        have n1_ := Aside0.mk (ZC (by (with_reducible repeat (first | apply Zn | apply Zm | apply Zo)); exact HO_360001.out) hb)
        have n2_ := Aside0.mk (ZC (by (with_reducible repeat (first | apply Zn | apply Zm | apply Zo)); exact HO_365001.out) hb)
        have n3_ := Aside0.mk (ZC (by (with_reducible repeat (first | apply Zn | apply Zm | apply Zo)); exact HO_374001.out) hb)
        have n4_ := Aside0.mk (ZC (by (with_reducible repeat (first | apply Zn | apply Zm | apply Zo)); exact HO378.out) hb)
        have n5_ := Aside0.mk (Zp (g := gb345) (o := .cells #[.int .i64 a0_0, .slice A0_1 l0_1.length c0_1] 24 (0, 0)) (by (with_reducible repeat (first | refine Zg ?_ _ | refine Zh ?_ | refine Zf ?_ _)); exact BK345.out) hb)
        have n6_ := Aside0.mk (Zp (g := gb359) (o := .cells #[.int .i64 t354, .slice Ao29 t355.length co29] 27 (0, 0)) (by (with_reducible repeat (first | refine Zg ?_ _ | refine Zh ?_ | refine Zf ?_ _)); exact BK359.out) hb)
        have n7_ := Aside0.mk (Zp (g := gb364) (o := .cells #[.int .i64 t360, .slice Ao36 t361.length co36] 27 (0, 0)) (by (with_reducible repeat (first | refine Zg ?_ _ | refine Zh ?_ | refine Zf ?_ _)); exact BK364.out) hb)
        have n8_ := Aside0.mk (Zp (g := gb373) (o := .cells #[.int .i64 t368, .slice Ao46 t369.length co46] 27 (0, 0)) (by (with_reducible repeat (first | refine Zg ?_ _ | refine Zh ?_ | refine Zf ?_ _)); exact BK373.out) hb)
        have n9_ := Aside0.mk (Zu (by repeat (first | (with_reducible first | exact HB.out | apply Zj | apply Ze | apply Zi | refine Zd ?_ GE345.out | refine Zd ?_ GE359.out | refine Zd ?_ GE364.out | refine Zd ?_ GE373.out) | exact HB.out)) hb)
        clear HO_9
        clear HO_360001
        clear HO_365001
        clear HO_374001
        clear HO378
        clear BK345
        clear BK359
        clear BK364
        clear BK373
        clear HB
        have HO_9 := n0_
        have HO_360001 := n1_
        have HO_365001 := n2_
        have HO_374001 := n3_
        have HO378 := n4_
        have BK345 := n5_
        have BK359 := n6_
        have BK364 := n7_
        have BK373 := n8_
        have HB := n9_
        clear n0_ n1_ n2_ n3_ n4_ n5_ n6_ n7_ n8_ n9_
        (try clear hb)
        (try clear hb2)
        (try clear hk)
        (try clear hi)
        refine hK.out _ _ ⟨(Zk BK364.out 0).trans rfl, (Zk BK364.out 1).trans rfl, (Zk BK345.out 0).trans rfl, (Zk BK345.out 1).trans rfl⟩ (fun hHeld => ?_)
        clear hK K
        refine norm_ (a' := ?_) ?_ ?_
        rotate_left
        ·show Act.put _ (some 55) _ = _
         simp only [Act.put, Za, Zb, Zc, Zq, Zr]
         rfl
        refine Zx (i := 4) (N := some 56) (v := ?_) (a' := ?_) #[Y,Y,Y,Y,Y] rfl rfl (by kernel_rfl) (fun _ _ _ h => h) (Or.inl ⟨by rfl, ?_⟩) ?_ ?_
        rotate_left
        ·intro w'
         go_simp
         with_reducible rfl
        rotate_left
        ·simp only [Act.put, Za, Zb, Zc, Zq, Zr]
         rfl
        refine done_ (by kernel_rfl) ?_
        go_upto_region 20 with (first | ((with_reducible refine ZA (f := 15) rfl ?_); refine goesL_ (some 59) rfl rfl Try.func15 (by kernel_rfl) rfl #[.slice A1 l1.length c1] rfl (by (try simp only [List.map_toArray, List.map_cons, List.map_nil]); first | done | rfl | (simp only [List.length_drop, List.length_take]; rfl)) ?_; (with_reducible refine (laws_toIntS.calls kj15 _ _ l1 t380 _ ?side1 ?side2 A69.out).mono ?_); (case side1 => repeat (first | exact (ZG HR1.out HB.out) | (with_reducible refine Zw ?_ _) | (with_reducible refine Zv ?_ _) | (with_reducible refine Zz ?_))); (case side2 => exact HC1.out); rintro e w79 ⟨v381, rfl, ho0, hb⟩; refine ⟨_, rfl, ?_⟩; have n0_ := Aside0.mk (Kd.R_elder' (by (with_reducible repeat (first | apply ZO | apply ZN | apply ZQ)); exact HO_9.out) (Kd.R_base ho0) hb); have n1_ := Aside0.mk (ZK (by (with_reducible repeat (first | apply Zn | apply Zm | apply Zo)); exact HO_360001.out) (Kd.R_base ho0) hb); have n2_ := Aside0.mk (ZK (by (with_reducible repeat (first | apply Zn | apply Zm | apply Zo)); exact HO_365001.out) (Kd.R_base ho0) hb); have n3_ := Aside0.mk (ZK (by (with_reducible repeat (first | apply Zn | apply Zm | apply Zo)); exact HO_374001.out) (Kd.R_base ho0) hb); have n4_ := Aside0.mk (ZK (by (with_reducible repeat (first | apply Zn | apply Zm | apply Zo)); exact HO378.out) (Kd.R_base ho0) hb); have n5_ := Aside0.mk (Kd.R_lower (Kd.R_new' ho0 (Kd.R_lt (by (with_reducible repeat (first | apply ZO | apply ZN | apply ZQ)); exact HO_9.out))) (Zs (by repeat (first | (with_reducible first | exact HB.out | apply Zj | apply Ze | apply Zi | refine Zd ?_ GE345.out | refine Zd ?_ GE359.out | refine Zd ?_ GE364.out | refine Zd ?_ GE373.out) | exact HB.out)))); have n6_ := Aside0.mk (Zp (g := gb345) (o := .cells #[.int .i64 a0_0, .slice A0_1 l0_1.length c0_1] 24 (0, 0)) (by (with_reducible repeat (first | refine Zg ?_ _ | refine Zh ?_ | refine Zf ?_ _)); exact BK345.out) hb); have n7_ := Aside0.mk (Zp (g := gb359) (o := .cells #[.int .i64 t354, .slice Ao29 t355.length co29] 27 (0, 0)) (by (with_reducible repeat (first | refine Zg ?_ _ | refine Zh ?_ | refine Zf ?_ _)); exact BK359.out) hb); have n8_ := Aside0.mk (Zp (g := gb364) (o := .cells #[.int .i64 t360, .slice Ao36 t361.length co36] 27 (0, 0)) (by (with_reducible repeat (first | refine Zg ?_ _ | refine Zh ?_ | refine Zf ?_ _)); exact BK364.out) hb); have n9_ := Aside0.mk (Zp (g := gb373) (o := .cells #[.int .i64 t368, .slice Ao46 t369.length co46] 27 (0, 0)) (by (with_reducible repeat (first | refine Zg ?_ _ | refine Zh ?_ | refine Zf ?_ _)); exact BK373.out) hb); have n10_ := Aside0.mk (Zu (by repeat (first | (with_reducible first | exact HB.out | apply Zj | apply Ze | apply Zi | refine Zd ?_ GE345.out | refine Zd ?_ GE359.out | refine Zd ?_ GE364.out | refine Zd ?_ GE373.out) | exact HB.out)) hb); clear HO_9; clear HO_360001; clear HO_365001; clear HO_374001; clear HO378; clear BK345; clear BK359; clear BK364; clear BK373; clear HB; have HO_9 := n0_; have HO_360001 := n1_; have HO_365001 := n2_; have HO_374001 := n3_; have HO378 := n4_; have HO382 := n5_; have BK345 := n6_; have BK359 := n7_; have BK364 := n8_; have BK373 := n9_; have HB := n10_; clear n0_ n1_ n2_ n3_ n4_ n5_ n6_ n7_ n8_ n9_ n10_; (try clear hb); (try clear hb2); (try clear hk); (try clear hi); (try clear ho0); obtain ⟨Ao80, co80, eo80⟩ := Kd.R_slice HO382.out; subst eo80) | ((with_reducible refine ZA (f := 17) rfl ?_); refine goesL_ (some 60) rfl rfl Try.func17 (by kernel_rfl) rfl #[.slice Ao39 t365.length co39, .slice Ao80 t380.length co80] rfl (by (try simp only [List.map_toArray, List.map_cons, List.map_nil]); first | done | rfl | (simp only [List.length_drop, List.length_take]; rfl)) ?_; (with_reducible refine (laws_eqIntS.calls kj15 _ _ t365 _ _ t380 true _ ?side1 ?side2 ?side3 ?side4 A70.out).mono ?_); (case side1 => repeat (first | exact (Kd.R_reads' HO_9.out).2.2 | (with_reducible refine Zw ?_ _) | (with_reducible refine Zv ?_ _) | (with_reducible refine Zz ?_))); (case side2 => exact (Kd.R_reads' HO_9.out).2.1); (case side3 => repeat (first | exact (Kd.R_reads' HO382.out).2.2 | (with_reducible refine Zw ?_ _) | (with_reducible refine Zv ?_ _) | (with_reducible refine Zz ?_))); (case side4 => exact (Kd.R_reads' HO382.out).2.1); rintro e w' ⟨rfl, ⟨nd, rfl⟩⟩; refine ⟨_, rfl, ?_⟩; have hnb81 := NB364_345.out; have hnc81 := NB345_364.out; have hnb82 := NB364_359.out; have hnc82 := NB359_364.out; have hnb83 := NB364_373.out; have hnc83 := NB373_364.out; have hcz84_0 : w79.cell? ⟨gb364, 0, none⟩ = some (.int .i64 t360) := (Zk BK364.out 0).trans rfl; have hcz84_1 : w79.cell? ⟨gb364, 1, none⟩ = some (.slice Ao36 t361.length co36) := (Zk BK364.out 1).trans rfl; have hfz84_0 := Zl BK364.out 0; have hfz84_1 := Zl BK364.out 1) | ((with_reducible refine ZA (f := 53) rfl ?_); refine goesL_ (some 64) rfl rfl Try.func53 (by kernel_rfl) rfl #[.agg #[.int .i64 t360, .slice Ao36 t361.length co36], .int .i64 1] rfl (by (try simp only [List.map_toArray, List.map_cons, List.map_nil]); first | done | rfl | (simp only [List.length_drop, List.length_take]; rfl)) ?_; (with_reducible refine (laws_markGraph.calls kj15 t360 (fun W_ => SpOf (Kd.slice 3 (Kd.int .i64)) (fun k_ => ((nsp_HO363 ≤ k_) ∧ k_ < nsp_HO371) ∧ k_ < nsp_HO378) W_ (fun k_ => (((some k_ ≠ (.slice Ao39 t365.length co39 : Value).ownBlock ∧ (some k_ ≠ (.slice Ao29 t355.length co29 : Value).ownBlock ∧ some k_ ≠ (.slice Ao46 t369.length co46 : Value).ownBlock)) ∧ some k_ ≠ (.slice Ao77 t376.length co77 : Value).ownBlock) ∧ some k_ ≠ (.slice Ao80 t380.length co80 : Value).ownBlock)) (.slice Ao36 t361.length co36)) (.slice Ao36 t361.length co36) t361 1 t384 t385 w _ ?side1 ?side2 A72.out).mono ?_); (case side1 => repeat (first | (with_reducible first | exact HB.out | apply Zj | apply Ze | apply Zi | refine Zd ?_ GE345.out | refine Zd ?_ GE359.out | refine Zd ?_ GE364.out | refine Zd ?_ GE373.out) | exact HB.out)); (case side2 => exact (S_ofSp (Zy (ok' := fun k_ => (((some k_ ≠ (.slice Ao39 t365.length co39 : Value).ownBlock ∧ (some k_ ≠ (.slice Ao29 t355.length co29 : Value).ownBlock ∧ some k_ ≠ (.slice Ao46 t369.length co46 : Value).ownBlock)) ∧ some k_ ≠ (.slice Ao77 t376.length co77 : Value).ownBlock) ∧ some k_ ≠ (.slice Ao80 t380.length co80 : Value).ownBlock)) (HO_365001.out) (fun k_ hk_ => by have h_ := hk_; (try simp only [true_and, and_assoc] at h_); (try simp only [true_and, and_assoc]); exact h_)))); rintro e w85 ⟨rfl, hy0, hb, hkp⟩; refine ⟨_, rfl, ?_⟩; have n0_ := Aside0.mk (R_besideSp rfl (ZR (ok' := fun k_ => (True ∧ some k_ ≠ (.slice Ao80 t380.length co80 : Value).ownBlock)) (HO_9.out) (fun k_ hk_ => by have h_ := hk_; (try simp only [true_and, and_assoc] at h_); (try simp only [true_and, and_assoc]); exact h_)) hkp (fun k_ ha_ => ha_.1.1.1)); have n1_ := Aside0.mk (S_besideSp (Zy (ok' := fun k_ => (((some k_ ≠ (.slice Ao39 t365.length co39 : Value).ownBlock ∧ (some k_ ≠ (.slice Ao36 t361.length co36 : Value).ownBlock ∧ some k_ ≠ (.slice Ao46 t369.length co46 : Value).ownBlock)) ∧ some k_ ≠ (.slice Ao77 t376.length co77 : Value).ownBlock) ∧ some k_ ≠ (.slice Ao80 t380.length co80 : Value).ownBlock)) (HO_360001.out) (fun k_ hk_ => by have h_ := hk_; (try simp only [true_and, and_assoc] at h_); (try simp only [true_and, and_assoc]); exact h_)) hkp (fun k_ ha_ hb_ => by (try dsimp only at ha_ hb_); omega) (by first | decide | exact spE_ (by decide))); have n2_ := Aside0.mk (S_toSp hy0); have n3_ := Aside0.mk (S_besideSp (Zy (ok' := fun k_ => (((some k_ ≠ (.slice Ao39 t365.length co39 : Value).ownBlock ∧ (some k_ ≠ (.slice Ao29 t355.length co29 : Value).ownBlock ∧ some k_ ≠ (.slice Ao36 t361.length co36 : Value).ownBlock)) ∧ some k_ ≠ (.slice Ao77 t376.length co77 : Value).ownBlock) ∧ some k_ ≠ (.slice Ao80 t380.length co80 : Value).ownBlock)) (HO_374001.out) (fun k_ hk_ => by have h_ := hk_; (try simp only [true_and, and_assoc] at h_); (try simp only [true_and, and_assoc]); exact h_)) hkp (fun k_ ha_ hb_ => by (try dsimp only at ha_ hb_); omega) (by first | decide | exact spE_ (by decide))); have n4_ := Aside0.mk (box_keptSp (g := gb345) (cs := #[.int .i64 a0_0, .slice A0_1 l0_1.length c0_1]) (t := 24) (by (with_reducible repeat (first | refine Zg ?_ _ | refine Zh ?_ | refine Zf ?_ _)); exact BK345.out) hkp (by first | decide | exact spE_ (by decide))); have n5_ := Aside0.mk (box_keptSp (g := gb359) (cs := #[.int .i64 t354, .slice Ao29 t355.length co29]) (t := 27) (by (with_reducible repeat (first | refine Zg ?_ _ | refine Zh ?_ | refine Zf ?_ _)); exact BK359.out) hkp (by first | decide | exact spE_ (by decide))); have n6_ := Aside0.mk (box_keptSp (g := gb364) (cs := #[.int .i64 t360, .slice Ao36 t361.length co36]) (t := 27) (by (with_reducible repeat (first | refine Zg ?_ _ | refine Zh ?_ | refine Zf ?_ _)); exact BK364.out) hkp (by first | decide | exact spE_ (by decide))); have n7_ := Aside0.mk (box_keptSp (g := gb373) (cs := #[.int .i64 t368, .slice Ao46 t369.length co46]) (t := 27) (by (with_reducible repeat (first | refine Zg ?_ _ | refine Zh ?_ | refine Zf ?_ _)); exact BK373.out) hkp (by first | decide | exact spE_ (by decide))); have n8_ := Aside0.mk (S_besideSp (Zy (ok' := fun k_ => (((((True ∧ some k_ ≠ (.slice Ao39 t365.length co39 : Value).ownBlock) ∧ some k_ ≠ (.slice Ao29 t355.length co29 : Value).ownBlock) ∧ some k_ ≠ (.slice Ao36 t361.length co36 : Value).ownBlock) ∧ some k_ ≠ (.slice Ao46 t369.length co46 : Value).ownBlock) ∧ some k_ ≠ (.slice Ao80 t380.length co80 : Value).ownBlock)) (HO378.out) (fun k_ hk_ => by have h_ := hk_; (try simp only [true_and, and_assoc] at h_); (try simp only [true_and, and_assoc]); exact h_)) hkp (fun k_ ha_ hb_ => by (try dsimp only at ha_ hb_); omega) (by first | decide | exact spE_ (by decide))); have n9_ := Aside0.mk (R_besideSp rfl (ZR (ok' := fun k_ => (True ∧ some k_ ≠ (.slice Ao39 t365.length co39 : Value).ownBlock)) (HO382.out) (fun k_ hk_ => by have h_ := hk_; (try simp only [true_and, and_assoc] at h_); (try simp only [true_and, and_assoc]); exact h_)) hkp (fun k_ ha_ => ha_.2)); have n10_ := Aside0.mk (hb); clear HO_9; clear HO_360001; clear HO_365001; clear HO_374001; clear BK345; clear BK359; clear BK364; clear BK373; clear HO378; clear HO382; clear HB; have HO_9 := n0_; have HO_360001 := n1_; have HO_365001 := n2_; have HO_374001 := n3_; have BK345 := n4_; have BK359 := n5_; have BK364 := n6_; have BK373 := n7_; have HO378 := n8_; have HO382 := n9_; have HB := n10_; clear n0_ n1_ n2_ n3_ n4_ n5_ n6_ n7_ n8_ n9_ n10_; (try clear hb); (try clear hkp); (try clear hy0)) | ((with_reducible refine ZA (f := 54) rfl ?_); refine goesL_ (some 67) rfl rfl Try.func54 (by kernel_rfl) rfl #[.slice Ao39 t365.length co39, .int .i64 t384] rfl (by (try simp only [List.map_toArray, List.map_cons, List.map_nil]); first | done | rfl | (simp only [List.length_drop, List.length_take]; rfl)) ?_; (with_reducible refine (laws_markIntS.calls kj15 (fun k_ => some k_ = (.slice Ao39 t365.length co39 : Value).ownBlock) (.slice Ao39 t365.length co39) t365 t384 t386 t387 w _ ?side1 ?side2 A73.out).mono ?_); (case side1 => repeat (first | (with_reducible first | exact HB.out | apply Zj | apply Ze | apply Zi | refine Zd ?_ GE345.out | refine Zd ?_ GE359.out | refine Zd ?_ GE364.out | refine Zd ?_ GE373.out) | exact HB.out)); (case side2 => exact Kd.R_tight rfl HO_9.out); rintro e w86 ⟨rfl, hy0, hb, hkp⟩; refine ⟨_, rfl, ?_⟩; have n0_ := Aside0.mk (Kd.R_reok rfl hy0 (fun k_ e_ => HO_9.out.1 k_ e_)); have n1_ := Aside0.mk (Zy (ok' := fun k_ => some k_ ≠ (.slice Ao39 t365.length co39 : Value).ownBlock ∧ some k_ ≠ (.slice Ao36 t361.length co36 : Value).ownBlock ∧ some k_ ≠ (.slice Ao46 t369.length co46 : Value).ownBlock ∧ some k_ ≠ (.slice Ao77 t376.length co77 : Value).ownBlock ∧ some k_ ≠ (.slice Ao80 t380.length co80 : Value).ownBlock) (Kd.S_keptB (HO_360001.out) hkp (fun k_ hk_ hs_ => (hk_.1.1.1) hs_)) (fun k_ hk_ => ⟨hk_.1.1.1.1, hk_.1.1.1.2.1, hk_.1.1.1.2.2, hk_.1.1.2, hk_.1.2⟩)); have n2_ := Aside0.mk (Zy (ok' := fun k_ => some k_ ≠ (.slice Ao39 t365.length co39 : Value).ownBlock ∧ some k_ ≠ (.slice Ao29 t355.length co29 : Value).ownBlock ∧ some k_ ≠ (.slice Ao46 t369.length co46 : Value).ownBlock ∧ some k_ ≠ (.slice Ao77 t376.length co77 : Value).ownBlock ∧ some k_ ≠ (.slice Ao80 t380.length co80 : Value).ownBlock) (Kd.S_keptB (HO_365001.out) hkp (fun k_ hk_ hs_ => (hk_.1.1.1) hs_)) (fun k_ hk_ => ⟨hk_.1.1.1.1, hk_.1.1.1.2.1, hk_.1.1.1.2.2, hk_.1.1.2, hk_.1.2⟩)); have n3_ := Aside0.mk (Zy (ok' := fun k_ => some k_ ≠ (.slice Ao39 t365.length co39 : Value).ownBlock ∧ some k_ ≠ (.slice Ao29 t355.length co29 : Value).ownBlock ∧ some k_ ≠ (.slice Ao36 t361.length co36 : Value).ownBlock ∧ some k_ ≠ (.slice Ao77 t376.length co77 : Value).ownBlock ∧ some k_ ≠ (.slice Ao80 t380.length co80 : Value).ownBlock) (Kd.S_keptB (HO_374001.out) hkp (fun k_ hk_ hs_ => (hk_.1.1.1) hs_)) (fun k_ hk_ => ⟨hk_.1.1.1.1, hk_.1.1.1.2.1, hk_.1.1.1.2.2, hk_.1.1.2, hk_.1.2⟩)); have n4_ := Aside0.mk (blk_kept (by (with_reducible repeat (first | refine Zg ?_ _ | refine Zh ?_ | refine Zf ?_ _)); exact BK345.out) hkp (fun hs_ => (fun e_ => (Kd.R_ne HO_9.out BK345.out (by first | decide | exact spE_ (by decide))) e_) hs_)); have n5_ := Aside0.mk (blk_kept (by (with_reducible repeat (first | refine Zg ?_ _ | refine Zh ?_ | refine Zf ?_ _)); exact BK359.out) hkp (fun hs_ => (fun e_ => (Kd.R_ne HO_9.out BK359.out (by first | decide | exact spE_ (by decide))) e_) hs_)); have n6_ := Aside0.mk (blk_kept (by (with_reducible repeat (first | refine Zg ?_ _ | refine Zh ?_ | refine Zf ?_ _)); exact BK364.out) hkp (fun hs_ => (fun e_ => (Kd.R_ne HO_9.out BK364.out (by first | decide | exact spE_ (by decide))) e_) hs_)); have n7_ := Aside0.mk (blk_kept (by (with_reducible repeat (first | refine Zg ?_ _ | refine Zh ?_ | refine Zf ?_ _)); exact BK373.out) hkp (fun hs_ => (fun e_ => (Kd.R_ne HO_9.out BK373.out (by first | decide | exact spE_ (by decide))) e_) hs_)); have n8_ := Aside0.mk (Zy (ok' := fun k_ => some k_ ≠ (.slice Ao39 t365.length co39 : Value).ownBlock ∧ some k_ ≠ (.slice Ao29 t355.length co29 : Value).ownBlock ∧ some k_ ≠ (.slice Ao36 t361.length co36 : Value).ownBlock ∧ some k_ ≠ (.slice Ao46 t369.length co46 : Value).ownBlock ∧ some k_ ≠ (.slice Ao80 t380.length co80 : Value).ownBlock) (Kd.S_keptB (HO378.out) hkp (fun k_ hk_ hs_ => (hk_.1.1.1.1.2) hs_)) (fun k_ hk_ => ⟨hk_.1.1.1.1.1.2, hk_.1.1.1.1.2, hk_.1.1.1.2, hk_.1.1.2, hk_.1.2⟩)); have n9_ := Aside0.mk (ZR (ok' := fun k_ => some k_ ≠ (.slice Ao39 t365.length co39 : Value).ownBlock) (Kd.R_keptB (HO382.out) hkp (fun k_ hk_ hs_ => (hk_.2) hs_)) (fun k_ hk_ => hk_.1.2)); have n10_ := Aside0.mk (hb); clear HO_9; clear HO_360001; clear HO_365001; clear HO_374001; clear BK345; clear BK359; clear BK364; clear BK373; clear HO378; clear HO382; clear HB; have HO_9 := n0_; have HO_360001 := n1_; have HO_365001 := n2_; have HO_374001 := n3_; have BK345 := n4_; have BK359 := n5_; have BK364 := n6_; have BK373 := n7_; have HO378 := n8_; have HO382 := n9_; have HB := n10_; clear n0_ n1_ n2_ n3_ n4_ n5_ n6_ n7_ n8_ n9_ n10_; (try clear hb); (try clear hkp); (try clear hy0)))
        (try simp only [Act.put, Za, Zb, Zc])
        go_cut [80] (fun v80 wc => ∃ (kq : Nat) (x80_73 : Bool), v80 = .bool x80_73 ∧ Aside0 (laws_FnExactRenamed.j1 kq l1 t358 x80_73 a0_0 l0_1 t354 t355 t368 t369 = some r) ∧ Aside0 (kq ≤ kj15) ∧ Aside0 (Kd.S (KSp (fun k_ => (((nsp_HO357 ≤ k_) ∧ k_ < nsp_HO363) ∧ k_ < nsp_HO371) ∧ k_ < nsp_HO378) (Kd.slice 3 (Kd.int .i64))) 31 wc w.heap.size (fun k_ => some k_ ≠ ((.slice Ao36 t361.length co36) : Value).ownBlock ∧ some k_ ≠ ((.slice Ao46 t369.length co46) : Value).ownBlock) (.slice Ao29 t355.length co29) t355) ∧ Aside0 (Kd.S (KSp (fun k_ => ((nsp_HO363 ≤ k_) ∧ k_ < nsp_HO371) ∧ k_ < nsp_HO378) (Kd.slice 3 (Kd.int .i64))) 31 wc w.heap.size (fun k_ => some k_ ≠ ((.slice Ao29 t355.length co29) : Value).ownBlock ∧ some k_ ≠ ((.slice Ao46 t369.length co46) : Value).ownBlock) (.slice Ao36 t361.length co36) t385) ∧ Aside0 (Kd.S (KSp (fun k_ => (nsp_HO371 ≤ k_) ∧ k_ < nsp_HO378) (Kd.slice 3 (Kd.int .i64))) 31 wc w.heap.size (fun k_ => some k_ ≠ ((.slice Ao29 t355.length co29) : Value).ownBlock ∧ some k_ ≠ ((.slice Ao36 t361.length co36) : Value).ownBlock) (.slice Ao46 t369.length co46) t369) ∧ Aside0 (wc.heap[gb345]? = some (.cells #[.int .i64 a0_0, (.slice A0_1 l0_1.length c0_1)] 24 (0, 0))) ∧ Aside0 (wc.heap[gb359]? = some (.cells #[.int .i64 t354, (.slice Ao29 t355.length co29)] 27 (0, 0))) ∧ Aside0 (wc.heap[gb364]? = some (.cells #[.int .i64 t360, (.slice Ao36 t361.length co36)] 27 (0, 0))) ∧ Aside0 (wc.heap[gb373]? = some (.cells #[.int .i64 t368, (.slice Ao46 t369.length co46)] 27 (0, 0))) ∧ Aside0 (Below w.heap.size w wc))
        case first =>
         have H := HC74.out
         clear HC74
         by_cases c87 : t386 < 0
         ·rw [if_pos c87] at H
          have c87b0 : decide (t386 < 0) = true := decide_eq_true c87
          clear c87
          (first | rw [c87b0] | (simp only [Zq, Zr]; rw [c87b0]) | skip)
          have H' := Aside0.mk H
          clear H
          go_wp2
          go_meet
          case rel => exact ⟨_, (true), (by first | rfl | (simp; done) | (simp [*]; done)), H', ⟨by have := HJ15.out; first | omega | exact Nat.le_refl _⟩, ⟨by (with_reducible repeat (first | apply Zn | apply Zm | apply Zo)); exact Zy HO_360001.out (fun _ hk => ⟨hk.2.1, hk.2.2.1⟩)⟩, ⟨by (with_reducible repeat (first | apply Zn | apply Zm | apply Zo)); exact Zy HO_365001.out (fun _ hk => ⟨hk.2.1, hk.2.2.1⟩)⟩, ⟨by (with_reducible repeat (first | apply Zn | apply Zm | apply Zo)); exact Zy HO_374001.out (fun _ hk => ⟨hk.2.1, hk.2.2.1⟩)⟩, ⟨by (with_reducible repeat (first | refine Zg ?_ _ | refine Zh ?_ | refine Zf ?_ _)); exact BK345.out⟩, ⟨by (with_reducible repeat (first | refine Zg ?_ _ | refine Zh ?_ | refine Zf ?_ _)); exact BK359.out⟩, ⟨by (with_reducible repeat (first | refine Zg ?_ _ | refine Zh ?_ | refine Zf ?_ _)); exact BK364.out⟩, ⟨by (with_reducible repeat (first | refine Zg ?_ _ | refine Zh ?_ | refine Zf ?_ _)); exact BK373.out⟩, ⟨by repeat (first | (with_reducible first | exact HB.out | apply Zj | apply Ze | apply Zi | refine Zd ?_ GE345.out | refine Zd ?_ GE359.out | refine Zd ?_ GE364.out | refine Zd ?_ GE373.out) | exact HB.out)⟩⟩
         ·rw [if_neg c87] at H
          have c87b0 : decide (t386 < 0) = false := decide_eq_false c87
          clear c87
          (first | rw [c87b0] | (simp only [Zq, Zr]; rw [c87b0]) | skip)
          replace H := Option.bind_eq_some_iff.mp H
          obtain ⟨t388, A880, H⟩ := H
          replace H : (if t388 = true then (laws_FnExactRenamed.j1 kj15 l1 t358 (t372 != t358) a0_0 l0_1 t354 t355 t368 t369) else (laws_FnExactRenamed.j1 kj15 l1 t358 true a0_0 l0_1 t354 t355 t368 t369)) = some r := H
          have A88 := Aside0.mk A880
          clear A880
          by_cases c89 : t388 = true
          ·subst c89
           have H1 : (laws_FnExactRenamed.j1 kj15 l1 t358 (t372 != t358) a0_0 l0_1 t354 t355 t368 t369) = some r := by rw [if_pos rfl] at H; exact H
           clear H
           have H := H1
           clear H1
           have H' := Aside0.mk H
           clear H
           have hnb90 := NB373_345.out
           have hnc90 := NB345_373.out
           have hnb91 := NB373_359.out
           have hnc91 := NB359_373.out
           have hnb92 := NB373_364.out
           have hnc92 := NB364_373.out
           have hcz93_0 : w86.cell? ⟨gb373, 0, none⟩ = some (.int .i64 t368) := (Zk BK373.out 0).trans rfl
           have hcz93_1 : w86.cell? ⟨gb373, 1, none⟩ = some (.slice Ao46 t369.length co46) := (Zk BK373.out 1).trans rfl
           have hfz93_0 := Zl BK373.out 0
           have hfz93_1 := Zl BK373.out 1
           have hnb94 := NB359_345.out
           have hnc94 := NB345_359.out
           have hnb95 := NB359_364.out
           have hnc95 := NB364_359.out
           have hcz96_0 : w86.cell? ⟨gb359, 0, none⟩ = some (.int .i64 t354) := (Zk BK359.out 0).trans rfl
           have hcz96_1 : w86.cell? ⟨gb359, 1, none⟩ = some (.slice Ao29 t355.length co29) := (Zk BK359.out 1).trans rfl
           have hfz96_0 := Zl BK359.out 0
           have hfz96_1 := Zl BK359.out 1
           go_wp2_with (first | (go_at_call 13; (with_reducible refine (laws_eqGraph.calls kj15 t368 _ _ t369 t354 _ _ t355 true _ ?side1 ?side2 ?side3 ?side4 A88.out).mono ?_); (case side1 => repeat (first | exact (ZF HO_374001.out).2.2 | (with_reducible refine Zw ?_ _) | (with_reducible refine Zv ?_ _) | (with_reducible refine Zz ?_))); (case side2 => exact (ZF HO_374001.out).2.1); (case side3 => repeat (first | exact (ZF HO_360001.out).2.2 | (with_reducible refine Zw ?_ _) | (with_reducible refine Zv ?_ _) | (with_reducible refine Zz ?_))); (case side4 => exact (ZF HO_360001.out).2.1); rintro e w97 ⟨rfl, hb⟩; have n0_ := Aside0.mk (Kd.R_below (by (with_reducible repeat (first | apply ZO | apply ZN | apply ZQ)); exact HO_9.out) hb); have n1_ := Aside0.mk (ZC (by (with_reducible repeat (first | apply Zn | apply Zm | apply Zo)); exact HO_360001.out) hb); have n2_ := Aside0.mk (ZC (by (with_reducible repeat (first | apply Zn | apply Zm | apply Zo)); exact HO_365001.out) hb); have n3_ := Aside0.mk (ZC (by (with_reducible repeat (first | apply Zn | apply Zm | apply Zo)); exact HO_374001.out) hb); have n4_ := Aside0.mk (ZC (by (with_reducible repeat (first | apply Zn | apply Zm | apply Zo)); exact HO378.out) hb); have n5_ := Aside0.mk (Kd.R_below (by (with_reducible repeat (first | apply ZO | apply ZN | apply ZQ)); exact HO382.out) hb); have n6_ := Aside0.mk (Zp (g := gb345) (o := .cells #[.int .i64 a0_0, .slice A0_1 l0_1.length c0_1] 24 (0, 0)) (by (with_reducible repeat (first | refine Zg ?_ _ | refine Zh ?_ | refine Zf ?_ _)); exact BK345.out) hb); have n7_ := Aside0.mk (Zp (g := gb359) (o := .cells #[.int .i64 t354, .slice Ao29 t355.length co29] 27 (0, 0)) (by (with_reducible repeat (first | refine Zg ?_ _ | refine Zh ?_ | refine Zf ?_ _)); exact BK359.out) hb); have n8_ := Aside0.mk (Zp (g := gb364) (o := .cells #[.int .i64 t360, .slice Ao36 t361.length co36] 27 (0, 0)) (by (with_reducible repeat (first | refine Zg ?_ _ | refine Zh ?_ | refine Zf ?_ _)); exact BK364.out) hb); have n9_ := Aside0.mk (Zp (g := gb373) (o := .cells #[.int .i64 t368, .slice Ao46 t369.length co46] 27 (0, 0)) (by (with_reducible repeat (first | refine Zg ?_ _ | refine Zh ?_ | refine Zf ?_ _)); exact BK373.out) hb); have n10_ := Aside0.mk (Zu (by repeat (first | (with_reducible first | exact HB.out | apply Zj | apply Ze | apply Zi | refine Zd ?_ GE345.out | refine Zd ?_ GE359.out | refine Zd ?_ GE364.out | refine Zd ?_ GE373.out) | exact HB.out)) hb); clear HO_9; clear HO_360001; clear HO_365001; clear HO_374001; clear HO378; clear HO382; clear BK345; clear BK359; clear BK364; clear BK373; clear HB; have HO_9 := n0_; have HO_360001 := n1_; have HO_365001 := n2_; have HO_374001 := n3_; have HO378 := n4_; have HO382 := n5_; have BK345 := n6_; have BK359 := n7_; have BK364 := n8_; have BK373 := n9_; have HB := n10_; clear n0_ n1_ n2_ n3_ n4_ n5_ n6_ n7_ n8_ n9_ n10_; (try clear hb); (try clear hb2); (try clear hk); (try clear hi)))
           go_meet
           case rel => exact ⟨_, ((t372 != t358)), (by first | rfl | (simp; done) | (simp [*]; done)), H', ⟨by have := HJ15.out; first | omega | exact Nat.le_refl _⟩, ⟨by (with_reducible repeat (first | apply Zn | apply Zm | apply Zo)); exact Zy HO_360001.out (fun _ hk => ⟨hk.2.1, hk.2.2.1⟩)⟩, ⟨by (with_reducible repeat (first | apply Zn | apply Zm | apply Zo)); exact Zy HO_365001.out (fun _ hk => ⟨hk.2.1, hk.2.2.1⟩)⟩, ⟨by (with_reducible repeat (first | apply Zn | apply Zm | apply Zo)); exact Zy HO_374001.out (fun _ hk => ⟨hk.2.1, hk.2.2.1⟩)⟩, ⟨by (with_reducible repeat (first | refine Zg ?_ _ | refine Zh ?_ | refine Zf ?_ _)); exact BK345.out⟩, ⟨by (with_reducible repeat (first | refine Zg ?_ _ | refine Zh ?_ | refine Zf ?_ _)); exact BK359.out⟩, ⟨by (with_reducible repeat (first | refine Zg ?_ _ | refine Zh ?_ | refine Zf ?_ _)); exact BK364.out⟩, ⟨by (with_reducible repeat (first | refine Zg ?_ _ | refine Zh ?_ | refine Zf ?_ _)); exact BK373.out⟩, ⟨by repeat (first | (with_reducible first | exact HB.out | apply Zj | apply Ze | apply Zi | refine Zd ?_ GE345.out | refine Zd ?_ GE359.out | refine Zd ?_ GE364.out | refine Zd ?_ GE373.out) | exact HB.out)⟩⟩
          ·replace c89 := Bool.eq_false_iff.mpr c89
           subst c89
           have H1 : (laws_FnExactRenamed.j1 kj15 l1 t358 true a0_0 l0_1 t354 t355 t368 t369) = some r := by rw [if_neg (show ¬ (false = true) by decide)] at H; exact H
           clear H
           have H := H1
           clear H1
           have H' := Aside0.mk H
           clear H
           have hnb98 := NB373_345.out
           have hnc98 := NB345_373.out
           have hnb99 := NB373_359.out
           have hnc99 := NB359_373.out
           have hnb100 := NB373_364.out
           have hnc100 := NB364_373.out
           have hcz101_0 : w86.cell? ⟨gb373, 0, none⟩ = some (.int .i64 t368) := (Zk BK373.out 0).trans rfl
           have hcz101_1 : w86.cell? ⟨gb373, 1, none⟩ = some (.slice Ao46 t369.length co46) := (Zk BK373.out 1).trans rfl
           have hfz101_0 := Zl BK373.out 0
           have hfz101_1 := Zl BK373.out 1
           have hnb102 := NB359_345.out
           have hnc102 := NB345_359.out
           have hnb103 := NB359_364.out
           have hnc103 := NB364_359.out
           have hcz104_0 : w86.cell? ⟨gb359, 0, none⟩ = some (.int .i64 t354) := (Zk BK359.out 0).trans rfl
           have hcz104_1 : w86.cell? ⟨gb359, 1, none⟩ = some (.slice Ao29 t355.length co29) := (Zk BK359.out 1).trans rfl
           have hfz104_0 := Zl BK359.out 0
           have hfz104_1 := Zl BK359.out 1
           go_wp2_with (first | (go_at_call 13; (with_reducible refine (laws_eqGraph.calls kj15 t368 _ _ t369 t354 _ _ t355 false _ ?side1 ?side2 ?side3 ?side4 A88.out).mono ?_); (case side1 => repeat (first | exact (ZF HO_374001.out).2.2 | (with_reducible refine Zw ?_ _) | (with_reducible refine Zv ?_ _) | (with_reducible refine Zz ?_))); (case side2 => exact (ZF HO_374001.out).2.1); (case side3 => repeat (first | exact (ZF HO_360001.out).2.2 | (with_reducible refine Zw ?_ _) | (with_reducible refine Zv ?_ _) | (with_reducible refine Zz ?_))); (case side4 => exact (ZF HO_360001.out).2.1); rintro e w105 ⟨rfl, hb⟩; have n0_ := Aside0.mk (Kd.R_below (by (with_reducible repeat (first | apply ZO | apply ZN | apply ZQ)); exact HO_9.out) hb); have n1_ := Aside0.mk (ZC (by (with_reducible repeat (first | apply Zn | apply Zm | apply Zo)); exact HO_360001.out) hb); have n2_ := Aside0.mk (ZC (by (with_reducible repeat (first | apply Zn | apply Zm | apply Zo)); exact HO_365001.out) hb); have n3_ := Aside0.mk (ZC (by (with_reducible repeat (first | apply Zn | apply Zm | apply Zo)); exact HO_374001.out) hb); have n4_ := Aside0.mk (ZC (by (with_reducible repeat (first | apply Zn | apply Zm | apply Zo)); exact HO378.out) hb); have n5_ := Aside0.mk (Kd.R_below (by (with_reducible repeat (first | apply ZO | apply ZN | apply ZQ)); exact HO382.out) hb); have n6_ := Aside0.mk (Zp (g := gb345) (o := .cells #[.int .i64 a0_0, .slice A0_1 l0_1.length c0_1] 24 (0, 0)) (by (with_reducible repeat (first | refine Zg ?_ _ | refine Zh ?_ | refine Zf ?_ _)); exact BK345.out) hb); have n7_ := Aside0.mk (Zp (g := gb359) (o := .cells #[.int .i64 t354, .slice Ao29 t355.length co29] 27 (0, 0)) (by (with_reducible repeat (first | refine Zg ?_ _ | refine Zh ?_ | refine Zf ?_ _)); exact BK359.out) hb); have n8_ := Aside0.mk (Zp (g := gb364) (o := .cells #[.int .i64 t360, .slice Ao36 t361.length co36] 27 (0, 0)) (by (with_reducible repeat (first | refine Zg ?_ _ | refine Zh ?_ | refine Zf ?_ _)); exact BK364.out) hb); have n9_ := Aside0.mk (Zp (g := gb373) (o := .cells #[.int .i64 t368, .slice Ao46 t369.length co46] 27 (0, 0)) (by (with_reducible repeat (first | refine Zg ?_ _ | refine Zh ?_ | refine Zf ?_ _)); exact BK373.out) hb); have n10_ := Aside0.mk (Zu (by repeat (first | (with_reducible first | exact HB.out | apply Zj | apply Ze | apply Zi | refine Zd ?_ GE345.out | refine Zd ?_ GE359.out | refine Zd ?_ GE364.out | refine Zd ?_ GE373.out) | exact HB.out)) hb); clear HO_9; clear HO_360001; clear HO_365001; clear HO_374001; clear HO378; clear HO382; clear BK345; clear BK359; clear BK364; clear BK373; clear HB; have HO_9 := n0_; have HO_360001 := n1_; have HO_365001 := n2_; have HO_374001 := n3_; have HO378 := n4_; have HO382 := n5_; have BK345 := n6_; have BK359 := n7_; have BK364 := n8_; have BK373 := n9_; have HB := n10_; clear n0_ n1_ n2_ n3_ n4_ n5_ n6_ n7_ n8_ n9_ n10_; (try clear hb); (try clear hb2); (try clear hk); (try clear hi)))
           go_meet
           case rel => exact ⟨_, (true), (by first | rfl | (simp; done) | (simp [*]; done)), H', ⟨by have := HJ15.out; first | omega | exact Nat.le_refl _⟩, ⟨by (with_reducible repeat (first | apply Zn | apply Zm | apply Zo)); exact Zy HO_360001.out (fun _ hk => ⟨hk.2.1, hk.2.2.1⟩)⟩, ⟨by (with_reducible repeat (first | apply Zn | apply Zm | apply Zo)); exact Zy HO_365001.out (fun _ hk => ⟨hk.2.1, hk.2.2.1⟩)⟩, ⟨by (with_reducible repeat (first | apply Zn | apply Zm | apply Zo)); exact Zy HO_374001.out (fun _ hk => ⟨hk.2.1, hk.2.2.1⟩)⟩, ⟨by (with_reducible repeat (first | refine Zg ?_ _ | refine Zh ?_ | refine Zf ?_ _)); exact BK345.out⟩, ⟨by (with_reducible repeat (first | refine Zg ?_ _ | refine Zh ?_ | refine Zf ?_ _)); exact BK359.out⟩, ⟨by (with_reducible repeat (first | refine Zg ?_ _ | refine Zh ?_ | refine Zf ?_ _)); exact BK364.out⟩, ⟨by (with_reducible repeat (first | refine Zg ?_ _ | refine Zh ?_ | refine Zf ?_ _)); exact BK373.out⟩, ⟨by repeat (first | (with_reducible first | exact HB.out | apply Zj | apply Ze | apply Zi | refine Zd ?_ GE345.out | refine Zd ?_ GE359.out | refine Zd ?_ GE364.out | refine Zd ?_ GE373.out) | exact HB.out)⟩⟩
        case rest =>
         clear HC74
         try clear c1
         try clear c2
         try clear p2
         try clear c3
         try clear c3b0
         try clear c3b1
         try clear c4
         try clear c5
         try clear c6
         try clear c6b0
         try clear c7
         try clear c8
         try clear c9
         try clear c10
         try clear c11
         try clear c13
         try clear c15
         try clear c17
         try clear c27
         try clear c33
         try clear c34
         try clear c42
         try clear c43
         try clear c44
         try clear c48
         try clear c49
         try clear c50
         try clear c51
         try clear c52
         try clear c53
         try clear c54
         try clear c57
         try clear c58
         try clear c59
         try clear c61
         try clear c62
         try clear c65
         try clear c68
         try clear c71
         try clear c81
         try clear c82
         try clear c83
         try clear c87
         try clear c87b0
         try clear c89
         try clear c90
         try clear c91
         try clear c92
         try clear c94
         try clear c95
         try clear c98
         try clear c99
         try clear c100
         try clear c102
         try clear c103
         try clear hcz101_0
         try clear hcz101_1
         try clear hcz104_0
         try clear hcz104_1
         try clear hcz18_0
         try clear hcz18_1
         try clear hcz20_0
         try clear hcz20_1
         try clear hcz28_0
         try clear hcz28_1
         try clear hcz30_0
         try clear hcz30_1
         try clear hcz35_0
         try clear hcz35_1
         try clear hcz38_0
         try clear hcz38_1
         try clear hcz45_0
         try clear hcz45_1
         try clear hcz52_0
         try clear hcz52_1
         try clear hcz55_0
         try clear hcz55_1
         try clear hcz60_0
         try clear hcz60_1
         try clear hcz63_0
         try clear hcz63_1
         try clear hcz84_0
         try clear hcz84_1
         try clear hcz8_0
         try clear hcz8_1
         try clear hcz93_0
         try clear hcz93_1
         try clear hcz96_0
         try clear hcz96_1
         try clear hfz101_0
         try clear hfz101_1
         try clear hfz104_0
         try clear hfz104_1
         try clear hfz18_0
         try clear hfz18_1
         try clear hfz20_0
         try clear hfz20_1
         try clear hfz28_0
         try clear hfz28_1
         try clear hfz30_0
         try clear hfz30_1
         try clear hfz35_0
         try clear hfz35_1
         try clear hfz38_0
         try clear hfz38_1
         try clear hfz45_0
         try clear hfz45_1
         try clear hfz52_0
         try clear hfz52_1
         try clear hfz55_0
         try clear hfz55_1
         try clear hfz60_0
         try clear hfz60_1
         try clear hfz63_0
         try clear hfz63_1
         try clear hfz84_0
         try clear hfz84_1
         try clear hfz8_0
         try clear hfz8_1
         try clear hfz93_0
         try clear hfz93_1
         try clear hfz96_0
         try clear hfz96_1
         try clear p2
         obtain ⟨kq, x80_73, rfl, HA, HJ73, HO_360001, HO_365001, HO_374001, BK345, BK359, BK364, BK373, HB⟩ := hcut
         have hl365001_73 := (ZF HO_365001.out).1
         rw [hl365001_73] at HO_365001
         (try simp only [hl365001_73])
         (try simp only [hl365001_73] at BK345)
         (try simp only [hl365001_73] at BK359)
         (try simp only [hl365001_73] at BK364)
         (try simp only [hl365001_73] at BK373)
         (try simp only [hl365001_73] at HO_360001)
         (try simp only [hl365001_73] at HO_374001)
         cases kq with
         | zero => exact absurd HA.out (by simp [laws_FnExactRenamed.j1])
         | succ kj73 =>
          have H := HA.out
          clear HA
          simp only [laws_FnExactRenamed.j1] at H
          by_cases c106 : x80_73 = true
          ·subst c106
           have H1 : (some false) = some r := by rw [if_pos rfl] at H; exact H
           clear H
           have H := H1
           clear H1
           obtain rfl := Option.some.inj H
           go_wp2
           all_goals go_ret
           all_goals exact ⟨by first | rfl | (simp [errW_none, errW_some] <;> rfl) | (simp [*, errW_none, errW_some] <;> rfl), by repeat (first | (with_reducible first | exact HB.out | apply Zj | apply Ze | apply Zi | refine Zd ?_ GE345.out | refine Zd ?_ GE359.out | refine Zd ?_ GE364.out | refine Zd ?_ GE373.out) | exact HB.out)⟩
          ·replace c106 := Bool.eq_false_iff.mpr c106
           subst c106
           have H1 : ((laws_markGraph.f kj73 t368 t369 1).bind fun bt389 => ((laws_heldGraph.f kj73 t368 bt389.2 1).bind fun t391 => (if t391 < 0 then (some false) else (if t391 = bt389.1 then ((laws_toGraph.f kj73 a0_0 l0_1).bind fun bt392 => ((laws_toIntS.f kj73 l1).bind fun t396 => ((impl_Renamed.f kj73 bt392.1 bt392.2 t396).bind fun bt399 => ((laws_eqGraph.f kj73 bt399.1 bt399.2.1 t354 t355).bind fun t405 => (if t405 = true then (laws_FnExactRenamed.j2 kj73 bt389.1 (bt399.2.2 != t358) t368 bt389.2) else (laws_FnExactRenamed.j2 kj73 bt389.1 true t368 bt389.2)))))) else (some false))))) = some r := by rw [if_neg (show ¬ (false = true) by decide)] at H; exact H
           clear H
           have H := H1
           clear H1
           replace H := Option.bind_eq_some_iff.mp H
           obtain ⟨⟨t389, t390⟩, A1070, H⟩ := H
           replace H : ((laws_heldGraph.f kj73 t368 t390 1).bind fun t391 => (if t391 < 0 then (some false) else (if t391 = t389 then ((laws_toGraph.f kj73 a0_0 l0_1).bind fun bt392 => ((laws_toIntS.f kj73 l1).bind fun t396 => ((impl_Renamed.f kj73 bt392.1 bt392.2 t396).bind fun bt399 => ((laws_eqGraph.f kj73 bt399.1 bt399.2.1 t354 t355).bind fun t405 => (if t405 = true then (laws_FnExactRenamed.j2 kj73 t389 (bt399.2.2 != t358) t368 t390) else (laws_FnExactRenamed.j2 kj73 t389 true t368 t390)))))) else (some false)))) = some r := H
           have A107 := Aside0.mk A1070
           clear A1070
           replace H := Option.bind_eq_some_iff.mp H
           obtain ⟨t391, A1080, H⟩ := H
           replace H : (if t391 < 0 then (some false) else (if t391 = t389 then ((laws_toGraph.f kj73 a0_0 l0_1).bind fun bt392 => ((laws_toIntS.f kj73 l1).bind fun t396 => ((impl_Renamed.f kj73 bt392.1 bt392.2 t396).bind fun bt399 => ((laws_eqGraph.f kj73 bt399.1 bt399.2.1 t354 t355).bind fun t405 => (if t405 = true then (laws_FnExactRenamed.j2 kj73 t389 (bt399.2.2 != t358) t368 t390) else (laws_FnExactRenamed.j2 kj73 t389 true t368 t390)))))) else (some false))) = some r := H
           have A108 := Aside0.mk A1080
           clear A1080
           by_cases c109 : t391 < 0
           ·rw [if_pos c109] at H
            have c109b0 : decide (t391 < 0) = true := decide_eq_true c109
            clear c109
            obtain rfl := Option.some.inj H
            have hnb110 := NB373_345.out
            have hnc110 := NB345_373.out
            have hnb111 := NB373_359.out
            have hnc111 := NB359_373.out
            have hnb112 := NB373_364.out
            have hnc112 := NB364_373.out
            have hcz113_0 : wc.cell? ⟨gb373, 0, none⟩ = some (.int .i64 t368) := (Zk BK373.out 0).trans rfl
            have hcz113_1 : wc.cell? ⟨gb373, 1, none⟩ = some (.slice Ao46 t369.length co46) := (Zk BK373.out 1).trans rfl
            have hfz113_0 := Zl BK373.out 0
            have hfz113_1 := Zl BK373.out 1
            go_wp2_with (first | ((with_reducible refine ZA (f := 53) rfl ?_); refine goesL_ (some 83) rfl rfl Try.func53 (by kernel_rfl) rfl #[.agg #[.int .i64 t368, .slice Ao46 t369.length co46], .int .i64 1] rfl (by (try simp only [List.map_toArray, List.map_cons, List.map_nil]); first | done | rfl | (simp only [List.length_drop, List.length_take]; rfl)) ?_; (with_reducible refine (laws_markGraph.calls kj73 t368 (fun W_ => SpOf (Kd.slice 3 (Kd.int .i64)) (fun k_ => (nsp_HO371 ≤ k_) ∧ k_ < nsp_HO378) W_ (fun k_ => (some k_ ≠ (.slice Ao29 t355.length co29 : Value).ownBlock ∧ some k_ ≠ (.slice Ao36 t385.length co36 : Value).ownBlock)) (.slice Ao46 t369.length co46)) (.slice Ao46 t369.length co46) t369 1 t389 t390 w _ ?side1 ?side2 A107.out).mono ?_); (case side1 => repeat (first | (with_reducible first | exact HB.out | apply Zj | apply Ze | apply Zi | refine Zd ?_ GE345.out | refine Zd ?_ GE359.out | refine Zd ?_ GE364.out | refine Zd ?_ GE373.out) | exact HB.out)); (case side2 => exact (S_ofSp (Zy (ok' := fun k_ => (some k_ ≠ (.slice Ao29 t355.length co29 : Value).ownBlock ∧ some k_ ≠ (.slice Ao36 t385.length co36 : Value).ownBlock)) (HO_374001.out) (fun k_ hk_ => by have h_ := hk_; (try simp only [true_and, and_assoc] at h_); (try simp only [true_and, and_assoc]); exact h_)))); rintro e w114 ⟨rfl, hy0, hb, hkp⟩; refine ⟨_, rfl, ?_⟩; have n0_ := Aside0.mk (S_besideSp (Zy (ok' := fun k_ => (some k_ ≠ (.slice Ao36 t385.length co36 : Value).ownBlock ∧ some k_ ≠ (.slice Ao46 t369.length co46 : Value).ownBlock)) (HO_360001.out) (fun k_ hk_ => by have h_ := hk_; (try simp only [true_and, and_assoc] at h_); (try simp only [true_and, and_assoc]); exact h_)) hkp (fun k_ ha_ hb_ => by (try dsimp only at ha_ hb_); omega) (by first | decide | exact spE_ (by decide))); have n1_ := Aside0.mk (S_besideSp (Zy (ok' := fun k_ => (some k_ ≠ (.slice Ao29 t355.length co29 : Value).ownBlock ∧ some k_ ≠ (.slice Ao46 t369.length co46 : Value).ownBlock)) (HO_365001.out) (fun k_ hk_ => by have h_ := hk_; (try simp only [true_and, and_assoc] at h_); (try simp only [true_and, and_assoc]); exact h_)) hkp (fun k_ ha_ hb_ => by (try dsimp only at ha_ hb_); omega) (by first | decide | exact spE_ (by decide))); have n2_ := Aside0.mk (S_toSp hy0); have n3_ := Aside0.mk (box_keptSp (g := gb345) (cs := #[.int .i64 a0_0, .slice A0_1 l0_1.length c0_1]) (t := 24) (by (with_reducible repeat (first | refine Zg ?_ _ | refine Zh ?_ | refine Zf ?_ _)); exact BK345.out) hkp (by first | decide | exact spE_ (by decide))); have n4_ := Aside0.mk (box_keptSp (g := gb359) (cs := #[.int .i64 t354, .slice Ao29 t355.length co29]) (t := 27) (by (with_reducible repeat (first | refine Zg ?_ _ | refine Zh ?_ | refine Zf ?_ _)); exact BK359.out) hkp (by first | decide | exact spE_ (by decide))); have n5_ := Aside0.mk (box_keptSp (g := gb364) (cs := #[.int .i64 t360, .slice Ao36 t385.length co36]) (t := 27) (by (with_reducible repeat (first | refine Zg ?_ _ | refine Zh ?_ | refine Zf ?_ _)); exact BK364.out) hkp (by first | decide | exact spE_ (by decide))); have n6_ := Aside0.mk (box_keptSp (g := gb373) (cs := #[.int .i64 t368, .slice Ao46 t369.length co46]) (t := 27) (by (with_reducible repeat (first | refine Zg ?_ _ | refine Zh ?_ | refine Zf ?_ _)); exact BK373.out) hkp (by first | decide | exact spE_ (by decide))); have n7_ := Aside0.mk (hb); clear HO_360001; clear HO_365001; clear HO_374001; clear BK345; clear BK359; clear BK364; clear BK373; clear HB; have HO_360001 := n0_; have HO_365001 := n1_; have HO_374001 := n2_; have BK345 := n3_; have BK359 := n4_; have BK364 := n5_; have BK373 := n6_; have HB := n7_; clear n0_ n1_ n2_ n3_ n4_ n5_ n6_ n7_; (try clear hb); (try clear hkp); (try clear hy0); have hcz115_0 : w114.cell? ⟨gb373, 0, none⟩ = some (.int .i64 t368) := (Zk BK373.out 0).trans rfl; have hcz115_1 : w114.cell? ⟨gb373, 1, none⟩ = some (.slice Ao46 t369.length co46) := (Zk BK373.out 1).trans rfl; have hfz115_0 := Zl BK373.out 0; have hfz115_1 := Zl BK373.out 1) | ((with_reducible refine ZA (f := 55) rfl ?_); refine goesL_ (some 86) rfl rfl Try.func55 (by kernel_rfl) rfl #[.agg #[.int .i64 t368, .slice Ao46 t390.length co46], .int .i64 1] rfl (by (try simp only [List.map_toArray, List.map_cons, List.map_nil]); first | done | (rw [show t390.length = t369.length from (ZF HO_374001.out).1.symm] <;> rfl) | rfl | (simp only [List.length_drop, List.length_take]; rfl)) ?_; (with_reducible refine (laws_heldGraph.calls kj73 t368 _ _ t390 1 t391 _ ?side1 ?side2 A108.out).mono ?_); (case side1 => repeat (first | exact (ZF HO_374001.out).2.2 | (with_reducible refine Zw ?_ _) | (with_reducible refine Zv ?_ _) | (with_reducible refine Zz ?_))); (case side2 => rw [show t390.length = t369.length from (ZF HO_374001.out).1.symm]; exact (ZF HO_374001.out).2.1); rintro e w116 ⟨rfl, hb⟩; refine ⟨_, rfl, ?_⟩; have n0_ := Aside0.mk (ZC (by (with_reducible repeat (first | apply Zn | apply Zm | apply Zo)); exact HO_360001.out) hb); have n1_ := Aside0.mk (ZC (by (with_reducible repeat (first | apply Zn | apply Zm | apply Zo)); exact HO_365001.out) hb); have n2_ := Aside0.mk (ZC (by (with_reducible repeat (first | apply Zn | apply Zm | apply Zo)); exact HO_374001.out) hb); have n3_ := Aside0.mk (Zp (g := gb345) (o := .cells #[.int .i64 a0_0, .slice A0_1 l0_1.length c0_1] 24 (0, 0)) (by (with_reducible repeat (first | refine Zg ?_ _ | refine Zh ?_ | refine Zf ?_ _)); exact BK345.out) hb); have n4_ := Aside0.mk (Zp (g := gb359) (o := .cells #[.int .i64 t354, .slice Ao29 t355.length co29] 27 (0, 0)) (by (with_reducible repeat (first | refine Zg ?_ _ | refine Zh ?_ | refine Zf ?_ _)); exact BK359.out) hb); have n5_ := Aside0.mk (Zp (g := gb364) (o := .cells #[.int .i64 t360, .slice Ao36 t385.length co36] 27 (0, 0)) (by (with_reducible repeat (first | refine Zg ?_ _ | refine Zh ?_ | refine Zf ?_ _)); exact BK364.out) hb); have n6_ := Aside0.mk (Zp (g := gb373) (o := .cells #[.int .i64 t368, .slice Ao46 t369.length co46] 27 (0, 0)) (by (with_reducible repeat (first | refine Zg ?_ _ | refine Zh ?_ | refine Zf ?_ _)); exact BK373.out) hb); have n7_ := Aside0.mk (Zu (by repeat (first | (with_reducible first | exact HB.out | apply Zj | apply Ze | apply Zi | refine Zd ?_ GE345.out | refine Zd ?_ GE359.out | refine Zd ?_ GE364.out | refine Zd ?_ GE373.out) | exact HB.out)) hb); clear HO_360001; clear HO_365001; clear HO_374001; clear BK345; clear BK359; clear BK364; clear BK373; clear HB; have HO_360001 := n0_; have HO_365001 := n1_; have HO_374001 := n2_; have BK345 := n3_; have BK359 := n4_; have BK364 := n5_; have BK373 := n6_; have HB := n7_; clear n0_ n1_ n2_ n3_ n4_ n5_ n6_ n7_; (try clear hb); (try clear hb2); (try clear hk); (try clear hi)))
            all_goals go_ret
            all_goals exact ⟨by first | rfl | (simp [errW_none, errW_some] <;> rfl) | (simp [*, errW_none, errW_some] <;> rfl), by repeat (first | (with_reducible first | exact HB.out | apply Zj | apply Ze | apply Zi | refine Zd ?_ GE345.out | refine Zd ?_ GE359.out | refine Zd ?_ GE364.out | refine Zd ?_ GE373.out) | exact HB.out)⟩
           ·rw [if_neg c109] at H
            have c109b0 : decide (t391 < 0) = false := decide_eq_false c109
            clear c109
            by_cases c117 : t391 = t389
            ·rw [if_pos c117] at H
             have c117b0 : (t391 == t389) = true := beq_iff_eq.mpr c117
             have c117b1 : (t391 != t389) = false := bne_eq_false_iff_eq.mpr c117
             clear c117
             replace H := Option.bind_eq_some_iff.mp H
             obtain ⟨⟨t392, t393⟩, A1180, H⟩ := H
             replace H : ((laws_toIntS.f kj73 l1).bind fun t396 => ((impl_Renamed.f kj73 t392 t393 t396).bind fun bt399 => ((laws_eqGraph.f kj73 bt399.1 bt399.2.1 t354 t355).bind fun t405 => (if t405 = true then (laws_FnExactRenamed.j2 kj73 t389 (bt399.2.2 != t358) t368 t390) else (laws_FnExactRenamed.j2 kj73 t389 true t368 t390))))) = some r := H
             have A118 := Aside0.mk A1180
             clear A1180
             replace H := Option.bind_eq_some_iff.mp H
             obtain ⟨t396, A1190, H⟩ := H
             replace H : ((impl_Renamed.f kj73 t392 t393 t396).bind fun bt399 => ((laws_eqGraph.f kj73 bt399.1 bt399.2.1 t354 t355).bind fun t405 => (if t405 = true then (laws_FnExactRenamed.j2 kj73 t389 (bt399.2.2 != t358) t368 t390) else (laws_FnExactRenamed.j2 kj73 t389 true t368 t390)))) = some r := H
             have A119 := Aside0.mk A1190
             clear A1190
             replace H := Option.bind_eq_some_iff.mp H
             obtain ⟨⟨t399, t400, t403⟩, A1200, H⟩ := H
             replace H : ((laws_eqGraph.f kj73 t399 t400 t354 t355).bind fun t405 => (if t405 = true then (laws_FnExactRenamed.j2 kj73 t389 (t403 != t358) t368 t390) else (laws_FnExactRenamed.j2 kj73 t389 true t368 t390))) = some r := H
             have A120 := Aside0.mk A1200
             clear A1200
             have HC121 := Aside0.mk H
             clear H
             have hnb122 := NB373_345.out
             have hnc122 := NB345_373.out
             have hnb123 := NB373_359.out
             have hnc123 := NB359_373.out
             have hnb124 := NB373_364.out
             have hnc124 := NB364_373.out
             have hcz125_0 : wc.cell? ⟨gb373, 0, none⟩ = some (.int .i64 t368) := (Zk BK373.out 0).trans rfl
             have hcz125_1 : wc.cell? ⟨gb373, 1, none⟩ = some (.slice Ao46 t369.length co46) := (Zk BK373.out 1).trans rfl
             have hfz125_0 := Zl BK373.out 0
             have hfz125_1 := Zl BK373.out 1
             go_upto_region 31 with (first | ((with_reducible refine ZA (f := 53) rfl ?_); refine goesL_ (some 83) rfl rfl Try.func53 (by kernel_rfl) rfl #[.agg #[.int .i64 t368, .slice Ao46 t369.length co46], .int .i64 1] rfl (by (try simp only [List.map_toArray, List.map_cons, List.map_nil]); first | done | rfl | (simp only [List.length_drop, List.length_take]; rfl)) ?_; (with_reducible refine (laws_markGraph.calls kj73 t368 (fun W_ => SpOf (Kd.slice 3 (Kd.int .i64)) (fun k_ => (nsp_HO371 ≤ k_) ∧ k_ < nsp_HO378) W_ (fun k_ => (some k_ ≠ (.slice Ao29 t355.length co29 : Value).ownBlock ∧ some k_ ≠ (.slice Ao36 t385.length co36 : Value).ownBlock)) (.slice Ao46 t369.length co46)) (.slice Ao46 t369.length co46) t369 1 t389 t390 w _ ?side1 ?side2 A107.out).mono ?_); (case side1 => repeat (first | (with_reducible first | exact HB.out | apply Zj | apply Ze | apply Zi | refine Zd ?_ GE345.out | refine Zd ?_ GE359.out | refine Zd ?_ GE364.out | refine Zd ?_ GE373.out) | exact HB.out)); (case side2 => exact (S_ofSp (Zy (ok' := fun k_ => (some k_ ≠ (.slice Ao29 t355.length co29 : Value).ownBlock ∧ some k_ ≠ (.slice Ao36 t385.length co36 : Value).ownBlock)) (HO_374001.out) (fun k_ hk_ => by have h_ := hk_; (try simp only [true_and, and_assoc] at h_); (try simp only [true_and, and_assoc]); exact h_)))); rintro e w126 ⟨rfl, hy0, hb, hkp⟩; refine ⟨_, rfl, ?_⟩; have n0_ := Aside0.mk (S_besideSp (Zy (ok' := fun k_ => (some k_ ≠ (.slice Ao36 t385.length co36 : Value).ownBlock ∧ some k_ ≠ (.slice Ao46 t369.length co46 : Value).ownBlock)) (HO_360001.out) (fun k_ hk_ => by have h_ := hk_; (try simp only [true_and, and_assoc] at h_); (try simp only [true_and, and_assoc]); exact h_)) hkp (fun k_ ha_ hb_ => by (try dsimp only at ha_ hb_); omega) (by first | decide | exact spE_ (by decide))); have n1_ := Aside0.mk (S_besideSp (Zy (ok' := fun k_ => (some k_ ≠ (.slice Ao29 t355.length co29 : Value).ownBlock ∧ some k_ ≠ (.slice Ao46 t369.length co46 : Value).ownBlock)) (HO_365001.out) (fun k_ hk_ => by have h_ := hk_; (try simp only [true_and, and_assoc] at h_); (try simp only [true_and, and_assoc]); exact h_)) hkp (fun k_ ha_ hb_ => by (try dsimp only at ha_ hb_); omega) (by first | decide | exact spE_ (by decide))); have n2_ := Aside0.mk (S_toSp hy0); have n3_ := Aside0.mk (box_keptSp (g := gb345) (cs := #[.int .i64 a0_0, .slice A0_1 l0_1.length c0_1]) (t := 24) (by (with_reducible repeat (first | refine Zg ?_ _ | refine Zh ?_ | refine Zf ?_ _)); exact BK345.out) hkp (by first | decide | exact spE_ (by decide))); have n4_ := Aside0.mk (box_keptSp (g := gb359) (cs := #[.int .i64 t354, .slice Ao29 t355.length co29]) (t := 27) (by (with_reducible repeat (first | refine Zg ?_ _ | refine Zh ?_ | refine Zf ?_ _)); exact BK359.out) hkp (by first | decide | exact spE_ (by decide))); have n5_ := Aside0.mk (box_keptSp (g := gb364) (cs := #[.int .i64 t360, .slice Ao36 t385.length co36]) (t := 27) (by (with_reducible repeat (first | refine Zg ?_ _ | refine Zh ?_ | refine Zf ?_ _)); exact BK364.out) hkp (by first | decide | exact spE_ (by decide))); have n6_ := Aside0.mk (box_keptSp (g := gb373) (cs := #[.int .i64 t368, .slice Ao46 t369.length co46]) (t := 27) (by (with_reducible repeat (first | refine Zg ?_ _ | refine Zh ?_ | refine Zf ?_ _)); exact BK373.out) hkp (by first | decide | exact spE_ (by decide))); have n7_ := Aside0.mk (hb); clear HO_360001; clear HO_365001; clear HO_374001; clear BK345; clear BK359; clear BK364; clear BK373; clear HB; have HO_360001 := n0_; have HO_365001 := n1_; have HO_374001 := n2_; have BK345 := n3_; have BK359 := n4_; have BK364 := n5_; have BK373 := n6_; have HB := n7_; clear n0_ n1_ n2_ n3_ n4_ n5_ n6_ n7_; (try clear hb); (try clear hkp); (try clear hy0); have hcz127_0 : w126.cell? ⟨gb373, 0, none⟩ = some (.int .i64 t368) := (Zk BK373.out 0).trans rfl; have hcz127_1 : w126.cell? ⟨gb373, 1, none⟩ = some (.slice Ao46 t369.length co46) := (Zk BK373.out 1).trans rfl; have hfz127_0 := Zl BK373.out 0; have hfz127_1 := Zl BK373.out 1) | ((with_reducible refine ZA (f := 55) rfl ?_); refine goesL_ (some 86) rfl rfl Try.func55 (by kernel_rfl) rfl #[.agg #[.int .i64 t368, .slice Ao46 t390.length co46], .int .i64 1] rfl (by (try simp only [List.map_toArray, List.map_cons, List.map_nil]); first | done | (rw [show t390.length = t369.length from (ZF HO_374001.out).1.symm] <;> rfl) | rfl | (simp only [List.length_drop, List.length_take]; rfl)) ?_; (with_reducible refine (laws_heldGraph.calls kj73 t368 _ _ t390 1 t391 _ ?side1 ?side2 A108.out).mono ?_); (case side1 => repeat (first | exact (ZF HO_374001.out).2.2 | (with_reducible refine Zw ?_ _) | (with_reducible refine Zv ?_ _) | (with_reducible refine Zz ?_))); (case side2 => rw [show t390.length = t369.length from (ZF HO_374001.out).1.symm]; exact (ZF HO_374001.out).2.1); rintro e w128 ⟨rfl, hb⟩; refine ⟨_, rfl, ?_⟩; have n0_ := Aside0.mk (ZC (by (with_reducible repeat (first | apply Zn | apply Zm | apply Zo)); exact HO_360001.out) hb); have n1_ := Aside0.mk (ZC (by (with_reducible repeat (first | apply Zn | apply Zm | apply Zo)); exact HO_365001.out) hb); have n2_ := Aside0.mk (ZC (by (with_reducible repeat (first | apply Zn | apply Zm | apply Zo)); exact HO_374001.out) hb); have n3_ := Aside0.mk (Zp (g := gb345) (o := .cells #[.int .i64 a0_0, .slice A0_1 l0_1.length c0_1] 24 (0, 0)) (by (with_reducible repeat (first | refine Zg ?_ _ | refine Zh ?_ | refine Zf ?_ _)); exact BK345.out) hb); have n4_ := Aside0.mk (Zp (g := gb359) (o := .cells #[.int .i64 t354, .slice Ao29 t355.length co29] 27 (0, 0)) (by (with_reducible repeat (first | refine Zg ?_ _ | refine Zh ?_ | refine Zf ?_ _)); exact BK359.out) hb); have n5_ := Aside0.mk (Zp (g := gb364) (o := .cells #[.int .i64 t360, .slice Ao36 t385.length co36] 27 (0, 0)) (by (with_reducible repeat (first | refine Zg ?_ _ | refine Zh ?_ | refine Zf ?_ _)); exact BK364.out) hb); have n6_ := Aside0.mk (Zp (g := gb373) (o := .cells #[.int .i64 t368, .slice Ao46 t369.length co46] 27 (0, 0)) (by (with_reducible repeat (first | refine Zg ?_ _ | refine Zh ?_ | refine Zf ?_ _)); exact BK373.out) hb); have n7_ := Aside0.mk (Zu (by repeat (first | (with_reducible first | exact HB.out | apply Zj | apply Ze | apply Zi | refine Zd ?_ GE345.out | refine Zd ?_ GE359.out | refine Zd ?_ GE364.out | refine Zd ?_ GE373.out) | exact HB.out)) hb); clear HO_360001; clear HO_365001; clear HO_374001; clear BK345; clear BK359; clear BK364; clear BK373; clear HB; have HO_360001 := n0_; have HO_365001 := n1_; have HO_374001 := n2_; have BK345 := n3_; have BK359 := n4_; have BK364 := n5_; have BK373 := n6_; have HB := n7_; clear n0_ n1_ n2_ n3_ n4_ n5_ n6_ n7_; (try clear hb); (try clear hb2); (try clear hk); (try clear hi); have hnb129 := NB345_359.out; have hnc129 := NB359_345.out; have hnb130 := NB345_364.out; have hnc130 := NB364_345.out; have hcz131_0 : w128.cell? ⟨gb345, 0, none⟩ = some (.int .i64 a0_0) := (Zk BK345.out 0).trans rfl; have hcz131_1 : w128.cell? ⟨gb345, 1, none⟩ = some (.slice A0_1 l0_1.length c0_1) := (Zk BK345.out 1).trans rfl; have hfz131_0 := Zl BK345.out 0; have hfz131_1 := Zl BK345.out 1) | ((with_reducible refine ZA (f := 11) rfl ?_); refine goesL_ (some 94) rfl rfl Try.func11 (by kernel_rfl) rfl #[.agg #[.int .i64 a0_0, .slice A0_1 l0_1.length c0_1]] rfl (by (try simp only [List.map_toArray, List.map_cons, List.map_nil]); first | done | rfl | (simp only [List.length_drop, List.length_take]; rfl)) ?_; (with_reducible refine (laws_toGraph.calls kj73 a0_0 _ _ l0_1 t392 t393 _ ?side1 ?side2 A118.out).mono ?_); (case side1 => repeat (first | exact (ZG HR0_1.out HB.out) | (with_reducible refine Zw ?_ _) | (with_reducible refine Zv ?_ _) | (with_reducible refine Zz ?_))); (case side2 => exact HC0_1.out); rintro e w132 ⟨v394, rfl, ho0, hb⟩; refine ⟨_, rfl, ?_⟩; obtain ⟨nsp_HO395, hnsp_HO395, ho0⟩ := S_newSp ho0; have n0_ := Aside0.mk (ZK ((S_oldSp (by (with_reducible repeat (first | apply Zn | apply Zm | apply Zo)); exact HO_360001.out) hnsp_HO395)) (Kd.S_base ho0) hb); have n1_ := Aside0.mk (ZK ((S_oldSp (by (with_reducible repeat (first | apply Zn | apply Zm | apply Zo)); exact HO_365001.out) hnsp_HO395)) (Kd.S_base ho0) hb); have n2_ := Aside0.mk (ZK ((S_oldSp (by (with_reducible repeat (first | apply Zn | apply Zm | apply Zo)); exact HO_374001.out) hnsp_HO395)) (Kd.S_base ho0) hb); have n3_ := Aside0.mk (Kd.S_lower (Kd.S_new' (Kd.S_new' (Kd.S_new' ho0 (Kd.S_lt (by (with_reducible repeat (first | apply Zn | apply Zm | apply Zo)); exact HO_360001.out))) (Kd.S_lt (by (with_reducible repeat (first | apply Zn | apply Zm | apply Zo)); exact HO_365001.out))) (Kd.S_lt (by (with_reducible repeat (first | apply Zn | apply Zm | apply Zo)); exact HO_374001.out))) (Zs (by repeat (first | (with_reducible first | exact HB.out | apply Zj | apply Ze | apply Zi | refine Zd ?_ GE345.out | refine Zd ?_ GE359.out | refine Zd ?_ GE364.out | refine Zd ?_ GE373.out) | exact HB.out)))); have n4_ := Aside0.mk (Zp (g := gb345) (o := .cells #[.int .i64 a0_0, .slice A0_1 l0_1.length c0_1] 24 (0, 0)) (by (with_reducible repeat (first | refine Zg ?_ _ | refine Zh ?_ | refine Zf ?_ _)); exact BK345.out) hb); have n5_ := Aside0.mk (Zp (g := gb359) (o := .cells #[.int .i64 t354, .slice Ao29 t355.length co29] 27 (0, 0)) (by (with_reducible repeat (first | refine Zg ?_ _ | refine Zh ?_ | refine Zf ?_ _)); exact BK359.out) hb); have n6_ := Aside0.mk (Zp (g := gb364) (o := .cells #[.int .i64 t360, .slice Ao36 t385.length co36] 27 (0, 0)) (by (with_reducible repeat (first | refine Zg ?_ _ | refine Zh ?_ | refine Zf ?_ _)); exact BK364.out) hb); have n7_ := Aside0.mk (Zp (g := gb373) (o := .cells #[.int .i64 t368, .slice Ao46 t369.length co46] 27 (0, 0)) (by (with_reducible repeat (first | refine Zg ?_ _ | refine Zh ?_ | refine Zf ?_ _)); exact BK373.out) hb); have n8_ := Aside0.mk (Zu (by repeat (first | (with_reducible first | exact HB.out | apply Zj | apply Ze | apply Zi | refine Zd ?_ GE345.out | refine Zd ?_ GE359.out | refine Zd ?_ GE364.out | refine Zd ?_ GE373.out) | exact HB.out)) hb); clear HO_360001; clear HO_365001; clear HO_374001; clear BK345; clear BK359; clear BK364; clear BK373; clear HB; have HO_360001 := n0_; have HO_365001 := n1_; have HO_374001 := n2_; have HO395 := n3_; have BK345 := n4_; have BK359 := n5_; have BK364 := n6_; have BK373 := n7_; have HB := n8_; clear n0_ n1_ n2_ n3_ n4_ n5_ n6_ n7_ n8_; (try clear hb); (try clear hb2); (try clear hk); (try clear hi); (try clear ho0)) | ((with_reducible refine ZA (f := 15) rfl ?_); refine goesL_ (some 96) rfl rfl Try.func15 (by kernel_rfl) rfl #[.slice A1 l1.length c1] rfl (by (try simp only [List.map_toArray, List.map_cons, List.map_nil]); first | done | rfl | (simp only [List.length_drop, List.length_take]; rfl)) ?_; (with_reducible refine (laws_toIntS.calls kj73 _ _ l1 t396 _ ?side1 ?side2 A119.out).mono ?_); (case side1 => repeat (first | exact (ZG HR1.out HB.out) | (with_reducible refine Zw ?_ _) | (with_reducible refine Zv ?_ _) | (with_reducible refine Zz ?_))); (case side2 => exact HC1.out); rintro e w133 ⟨v397, rfl, ho0, hb⟩; refine ⟨_, rfl, ?_⟩; have n0_ := Aside0.mk (ZK (by (with_reducible repeat (first | apply Zn | apply Zm | apply Zo)); exact HO_360001.out) (Kd.R_base ho0) hb); have n1_ := Aside0.mk (ZK (by (with_reducible repeat (first | apply Zn | apply Zm | apply Zo)); exact HO_365001.out) (Kd.R_base ho0) hb); have n2_ := Aside0.mk (ZK (by (with_reducible repeat (first | apply Zn | apply Zm | apply Zo)); exact HO_374001.out) (Kd.R_base ho0) hb); have n3_ := Aside0.mk (ZK (by (with_reducible repeat (first | apply Zn | apply Zm | apply Zo)); exact HO395.out) (Kd.R_base ho0) hb); have n4_ := Aside0.mk (Kd.R_lower ho0 (Zs (by repeat (first | (with_reducible first | exact HB.out | apply Zj | apply Ze | apply Zi | refine Zd ?_ GE345.out | refine Zd ?_ GE359.out | refine Zd ?_ GE364.out | refine Zd ?_ GE373.out) | exact HB.out)))); have n5_ := Aside0.mk (Zp (g := gb345) (o := .cells #[.int .i64 a0_0, .slice A0_1 l0_1.length c0_1] 24 (0, 0)) (by (with_reducible repeat (first | refine Zg ?_ _ | refine Zh ?_ | refine Zf ?_ _)); exact BK345.out) hb); have n6_ := Aside0.mk (Zp (g := gb359) (o := .cells #[.int .i64 t354, .slice Ao29 t355.length co29] 27 (0, 0)) (by (with_reducible repeat (first | refine Zg ?_ _ | refine Zh ?_ | refine Zf ?_ _)); exact BK359.out) hb); have n7_ := Aside0.mk (Zp (g := gb364) (o := .cells #[.int .i64 t360, .slice Ao36 t385.length co36] 27 (0, 0)) (by (with_reducible repeat (first | refine Zg ?_ _ | refine Zh ?_ | refine Zf ?_ _)); exact BK364.out) hb); have n8_ := Aside0.mk (Zp (g := gb373) (o := .cells #[.int .i64 t368, .slice Ao46 t369.length co46] 27 (0, 0)) (by (with_reducible repeat (first | refine Zg ?_ _ | refine Zh ?_ | refine Zf ?_ _)); exact BK373.out) hb); have n9_ := Aside0.mk (Zu (by repeat (first | (with_reducible first | exact HB.out | apply Zj | apply Ze | apply Zi | refine Zd ?_ GE345.out | refine Zd ?_ GE359.out | refine Zd ?_ GE364.out | refine Zd ?_ GE373.out) | exact HB.out)) hb); clear HO_360001; clear HO_365001; clear HO_374001; clear HO395; clear BK345; clear BK359; clear BK364; clear BK373; clear HB; have HO_360001 := n0_; have HO_365001 := n1_; have HO_374001 := n2_; have HO395 := n3_; have HO398 := n4_; have BK345 := n5_; have BK359 := n6_; have BK364 := n7_; have BK373 := n8_; have HB := n9_; clear n0_ n1_ n2_ n3_ n4_ n5_ n6_ n7_ n8_ n9_; (try clear hb); (try clear hb2); (try clear hk); (try clear hi); (try clear ho0); obtain ⟨Ao134, co134, eo134⟩ := Kd.S_slice HO395.out; subst eo134; obtain ⟨Ao135, co135, eo135⟩ := Kd.R_slice HO398.out; subst eo135) | ((with_reducible refine ZA (f := 48) rfl ?_); refine goesL_ (some 97) rfl rfl Try.func48 (by kernel_rfl) rfl #[.agg #[.int .i64 t392, .slice Ao134 t393.length co134], .slice Ao135 t396.length co135] rfl (by (try simp only [List.map_toArray, List.map_cons, List.map_nil]); first | done | rfl | (simp only [List.length_drop, List.length_take]; rfl)) ?_; (with_reducible refine (impl_Renamed.calls kj73 t392 _ _ t393 _ _ t396 t399 t400 t403 _ ?side1 ?side2 ?side3 ?side4 A120.out).mono ?_); (case side1 => repeat (first | exact (ZF HO395.out).2.2 | (with_reducible refine Zw ?_ _) | (with_reducible refine Zv ?_ _) | (with_reducible refine Zz ?_))); (case side2 => exact (ZF HO395.out).2.1); (case side3 => repeat (first | exact (Kd.R_reads' HO398.out).2.2 | (with_reducible refine Zw ?_ _) | (with_reducible refine Zv ?_ _) | (with_reducible refine Zz ?_))); (case side4 => exact (Kd.R_reads' HO398.out).2.1); rintro e w136 ⟨v401, rfl, ho0, hb⟩; refine ⟨_, rfl, ?_⟩; obtain ⟨nsp_HO402, hnsp_HO402, ho0⟩ := S_newSp ho0; have n0_ := Aside0.mk (ZK ((S_oldSp (by (with_reducible repeat (first | apply Zn | apply Zm | apply Zo)); exact HO_360001.out) hnsp_HO402)) (Kd.S_base ho0) hb); have n1_ := Aside0.mk (ZK ((S_oldSp (by (with_reducible repeat (first | apply Zn | apply Zm | apply Zo)); exact HO_365001.out) hnsp_HO402)) (Kd.S_base ho0) hb); have n2_ := Aside0.mk (ZK ((S_oldSp (by (with_reducible repeat (first | apply Zn | apply Zm | apply Zo)); exact HO_374001.out) hnsp_HO402)) (Kd.S_base ho0) hb); have n3_ := Aside0.mk (ZK ((S_oldSp (by (with_reducible repeat (first | apply Zn | apply Zm | apply Zo)); exact HO395.out) hnsp_HO402)) (Kd.S_base ho0) hb); have n4_ := Aside0.mk (Kd.R_below (by (with_reducible repeat (first | apply ZO | apply ZN | apply ZQ)); exact HO398.out) hb); have n5_ := Aside0.mk (Kd.S_lower (Kd.S_new' (Kd.S_new' (Kd.S_new' (Kd.S_new' (Kd.S_new' ho0 (Kd.S_lt (by (with_reducible repeat (first | apply Zn | apply Zm | apply Zo)); exact HO_360001.out))) (Kd.S_lt (by (with_reducible repeat (first | apply Zn | apply Zm | apply Zo)); exact HO_365001.out))) (Kd.S_lt (by (with_reducible repeat (first | apply Zn | apply Zm | apply Zo)); exact HO_374001.out))) (Kd.S_lt (by (with_reducible repeat (first | apply Zn | apply Zm | apply Zo)); exact HO395.out))) (Kd.R_lt (by (with_reducible repeat (first | apply ZO | apply ZN | apply ZQ)); exact HO398.out))) (Zs (by repeat (first | (with_reducible first | exact HB.out | apply Zj | apply Ze | apply Zi | refine Zd ?_ GE345.out | refine Zd ?_ GE359.out | refine Zd ?_ GE364.out | refine Zd ?_ GE373.out) | exact HB.out)))); have n6_ := Aside0.mk (Zp (g := gb345) (o := .cells #[.int .i64 a0_0, .slice A0_1 l0_1.length c0_1] 24 (0, 0)) (by (with_reducible repeat (first | refine Zg ?_ _ | refine Zh ?_ | refine Zf ?_ _)); exact BK345.out) hb); have n7_ := Aside0.mk (Zp (g := gb359) (o := .cells #[.int .i64 t354, .slice Ao29 t355.length co29] 27 (0, 0)) (by (with_reducible repeat (first | refine Zg ?_ _ | refine Zh ?_ | refine Zf ?_ _)); exact BK359.out) hb); have n8_ := Aside0.mk (Zp (g := gb364) (o := .cells #[.int .i64 t360, .slice Ao36 t385.length co36] 27 (0, 0)) (by (with_reducible repeat (first | refine Zg ?_ _ | refine Zh ?_ | refine Zf ?_ _)); exact BK364.out) hb); have n9_ := Aside0.mk (Zp (g := gb373) (o := .cells #[.int .i64 t368, .slice Ao46 t369.length co46] 27 (0, 0)) (by (with_reducible repeat (first | refine Zg ?_ _ | refine Zh ?_ | refine Zf ?_ _)); exact BK373.out) hb); have n10_ := Aside0.mk (Zu (by repeat (first | (with_reducible first | exact HB.out | apply Zj | apply Ze | apply Zi | refine Zd ?_ GE345.out | refine Zd ?_ GE359.out | refine Zd ?_ GE364.out | refine Zd ?_ GE373.out) | exact HB.out)) hb); clear HO_360001; clear HO_365001; clear HO_374001; clear HO395; clear HO398; clear BK345; clear BK359; clear BK364; clear BK373; clear HB; have HO_360001 := n0_; have HO_365001 := n1_; have HO_374001 := n2_; have HO395 := n3_; have HO398 := n4_; have HO402 := n5_; have BK345 := n6_; have BK359 := n7_; have BK364 := n8_; have BK373 := n9_; have HB := n10_; clear n0_ n1_ n2_ n3_ n4_ n5_ n6_ n7_ n8_ n9_ n10_; (try clear hb); (try clear hb2); (try clear hk); (try clear hi); (try clear ho0)) | ((with_reducible refine gate_dst (N := 15) rfl ?_); refine box_event ?hg (N := 15) ?hd (cs := #[.int .i64 0, .slice none 0 0]) (t := 27) ?hr ?_; (case hd => rfl); (case hg => rfl); (case hr => first | (go_simp; done) | (go_simp; rfl)); intro gb404 hg w137 hbox hb; have n0_ := Aside0.mk (ZC (by (with_reducible repeat (first | apply Zn | apply Zm | apply Zo)); exact HO_360001.out) hb); have n1_ := Aside0.mk (ZC (by (with_reducible repeat (first | apply Zn | apply Zm | apply Zo)); exact HO_365001.out) hb); have n2_ := Aside0.mk (ZC (by (with_reducible repeat (first | apply Zn | apply Zm | apply Zo)); exact HO_374001.out) hb); have n3_ := Aside0.mk (ZC (by (with_reducible repeat (first | apply Zn | apply Zm | apply Zo)); exact HO395.out) hb); have n4_ := Aside0.mk (Kd.R_below (by (with_reducible repeat (first | apply ZO | apply ZN | apply ZQ)); exact HO398.out) hb); have n5_ := Aside0.mk (ZC (by (with_reducible repeat (first | apply Zn | apply Zm | apply Zo)); exact HO402.out) hb); have n6_ := Aside0.mk (Zp (g := gb345) (o := .cells #[.int .i64 a0_0, .slice A0_1 l0_1.length c0_1] 24 (0, 0)) (by (with_reducible repeat (first | refine Zg ?_ _ | refine Zh ?_ | refine Zf ?_ _)); exact BK345.out) hb); have n7_ := Aside0.mk (Zp (g := gb359) (o := .cells #[.int .i64 t354, .slice Ao29 t355.length co29] 27 (0, 0)) (by (with_reducible repeat (first | refine Zg ?_ _ | refine Zh ?_ | refine Zf ?_ _)); exact BK359.out) hb); have n8_ := Aside0.mk (Zp (g := gb364) (o := .cells #[.int .i64 t360, .slice Ao36 t385.length co36] 27 (0, 0)) (by (with_reducible repeat (first | refine Zg ?_ _ | refine Zh ?_ | refine Zf ?_ _)); exact BK364.out) hb); have n9_ := Aside0.mk (Zp (g := gb373) (o := .cells #[.int .i64 t368, .slice Ao46 t369.length co46] 27 (0, 0)) (by (with_reducible repeat (first | refine Zg ?_ _ | refine Zh ?_ | refine Zf ?_ _)); exact BK373.out) hb); have n10_ := Aside0.mk (Zu (by repeat (first | (with_reducible first | exact HB.out | apply Zj | apply Ze | apply Zi | refine Zd ?_ GE345.out | refine Zd ?_ GE359.out | refine Zd ?_ GE364.out | refine Zd ?_ GE373.out) | exact HB.out)) hb); have n11_ := Aside0.mk (hbox); have n12_ := Aside0.mk ((by rw [hg]; exact (Zs (by repeat (first | (with_reducible first | exact HB.out | apply Zj | apply Ze | apply Zi | refine Zd ?_ GE345.out | refine Zd ?_ GE359.out | refine Zd ?_ GE364.out | refine Zd ?_ GE373.out) | exact HB.out))) : w.heap.size ≤ gb404)); have n13_ := Aside0.mk ((by rw [hg]; exact (Zs (by repeat (first | (with_reducible first | exact HB.out | apply Zj | apply Ze | apply Zi | refine Zd ?_ GE345.out | refine Zd ?_ GE359.out | refine Zd ?_ GE364.out | refine Zd ?_ GE373.out) | exact HB.out))) : w.heap.size ≤ gb404)); have n14_ := Aside0.mk ((by rw [hg]; exact Nat.ne_of_lt (blk_lt (g := gb345) (o := .cells #[.int .i64 a0_0, .slice A0_1 l0_1.length c0_1] 24 (0, 0)) (by (with_reducible repeat (first | refine Zg ?_ _ | refine Zh ?_ | refine Zf ?_ _)); exact BK345.out)) : gb345 ≠ gb404)); have n15_ := Aside0.mk ((by rw [hg]; exact Nat.ne_of_gt (blk_lt (g := gb345) (o := .cells #[.int .i64 a0_0, .slice A0_1 l0_1.length c0_1] 24 (0, 0)) (by (with_reducible repeat (first | refine Zg ?_ _ | refine Zh ?_ | refine Zf ?_ _)); exact BK345.out)) : gb404 ≠ gb345)); have n16_ := Aside0.mk ((by rw [hg]; exact Nat.ne_of_lt (blk_lt (g := gb359) (o := .cells #[.int .i64 t354, .slice Ao29 t355.length co29] 27 (0, 0)) (by (with_reducible repeat (first | refine Zg ?_ _ | refine Zh ?_ | refine Zf ?_ _)); exact BK359.out)) : gb359 ≠ gb404)); have n17_ := Aside0.mk ((by rw [hg]; exact Nat.ne_of_gt (blk_lt (g := gb359) (o := .cells #[.int .i64 t354, .slice Ao29 t355.length co29] 27 (0, 0)) (by (with_reducible repeat (first | refine Zg ?_ _ | refine Zh ?_ | refine Zf ?_ _)); exact BK359.out)) : gb404 ≠ gb359)); have n18_ := Aside0.mk ((by rw [hg]; exact Nat.ne_of_lt (blk_lt (g := gb364) (o := .cells #[.int .i64 t360, .slice Ao36 t385.length co36] 27 (0, 0)) (by (with_reducible repeat (first | refine Zg ?_ _ | refine Zh ?_ | refine Zf ?_ _)); exact BK364.out)) : gb364 ≠ gb404)); have n19_ := Aside0.mk ((by rw [hg]; exact Nat.ne_of_gt (blk_lt (g := gb364) (o := .cells #[.int .i64 t360, .slice Ao36 t385.length co36] 27 (0, 0)) (by (with_reducible repeat (first | refine Zg ?_ _ | refine Zh ?_ | refine Zf ?_ _)); exact BK364.out)) : gb404 ≠ gb364)); have n20_ := Aside0.mk ((by rw [hg]; exact Nat.ne_of_lt (blk_lt (g := gb373) (o := .cells #[.int .i64 t368, .slice Ao46 t369.length co46] 27 (0, 0)) (by (with_reducible repeat (first | refine Zg ?_ _ | refine Zh ?_ | refine Zf ?_ _)); exact BK373.out)) : gb373 ≠ gb404)); have n21_ := Aside0.mk ((by rw [hg]; exact Nat.ne_of_gt (blk_lt (g := gb373) (o := .cells #[.int .i64 t368, .slice Ao46 t369.length co46] 27 (0, 0)) (by (with_reducible repeat (first | refine Zg ?_ _ | refine Zh ?_ | refine Zf ?_ _)); exact BK373.out)) : gb404 ≠ gb373)); clear HO_360001; clear HO_365001; clear HO_374001; clear HO395; clear HO398; clear HO402; clear BK345; clear BK359; clear BK364; clear BK373; clear HB; have HO_360001 := n0_; have HO_365001 := n1_; have HO_374001 := n2_; have HO395 := n3_; have HO398 := n4_; have HO402 := n5_; have BK345 := n6_; have BK359 := n7_; have BK364 := n8_; have BK373 := n9_; have HB := n10_; have BK404 := n11_; have GW404 := n12_; have GE404 := n13_; have NB345_404 := n14_; have NB404_345 := n15_; have NB359_404 := n16_; have NB404_359 := n17_; have NB364_404 := n18_; have NB404_364 := n19_; have NB373_404 := n20_; have NB404_373 := n21_; clear n0_ n1_ n2_ n3_ n4_ n5_ n6_ n7_ n8_ n9_ n10_ n11_ n12_ n13_ n14_ n15_ n16_ n17_ n18_ n19_ n20_ n21_; clear hb hbox hg; have hnb138 := NB404_345.out; have hnc138 := NB345_404.out; have hnb139 := NB404_359.out; have hnc139 := NB359_404.out; have hnb140 := NB404_364.out; have hnc140 := NB364_404.out; have hnb141 := NB404_373.out; have hnc141 := NB373_404.out; have hcz142_0 : w137.cell? ⟨gb404, 0, none⟩ = some (.int .i64 0) := (Zk BK404.out 0).trans rfl; have hcz142_1 : w137.cell? ⟨gb404, 1, none⟩ = some (.slice none 0 0) := (Zk BK404.out 1).trans rfl; have hfz142_0 := Zl BK404.out 0; have hfz142_1 := Zl BK404.out 1; obtain ⟨Ao143, co143, eo143⟩ := Kd.S_slice HO402.out; subst eo143))
             (try simp only [Act.put, Za, Zb, Zc])
             go_cut [108] (fun v108 wc => ∃ (kq : Nat) (x108_120 : Bool), v108 = .bool x108_120 ∧ Aside0 (laws_FnExactRenamed.j2 kq t389 x108_120 t368 t390 = some r) ∧ Aside0 (kq ≤ kj73) ∧ Aside0 (Kd.S (KSp (fun k_ => (((((nsp_HO357 ≤ k_) ∧ k_ < nsp_HO363) ∧ k_ < nsp_HO371) ∧ k_ < nsp_HO378) ∧ k_ < nsp_HO395) ∧ k_ < nsp_HO402) (Kd.slice 3 (Kd.int .i64))) 31 wc w.heap.size (fun k_ => some k_ ≠ ((.slice Ao36 t385.length co36) : Value).ownBlock ∧ some k_ ≠ ((.slice Ao46 t369.length co46) : Value).ownBlock ∧ some k_ ≠ ((.slice Ao143 t400.length co143) : Value).ownBlock) (.slice Ao29 t355.length co29) t355) ∧ Aside0 (Kd.S (KSp (fun k_ => ((((nsp_HO363 ≤ k_) ∧ k_ < nsp_HO371) ∧ k_ < nsp_HO378) ∧ k_ < nsp_HO395) ∧ k_ < nsp_HO402) (Kd.slice 3 (Kd.int .i64))) 31 wc w.heap.size (fun k_ => some k_ ≠ ((.slice Ao29 t355.length co29) : Value).ownBlock ∧ some k_ ≠ ((.slice Ao46 t369.length co46) : Value).ownBlock ∧ some k_ ≠ ((.slice Ao143 t400.length co143) : Value).ownBlock) (.slice Ao36 t385.length co36) t385) ∧ Aside0 (Kd.S (KSp (fun k_ => (((nsp_HO371 ≤ k_) ∧ k_ < nsp_HO378) ∧ k_ < nsp_HO395) ∧ k_ < nsp_HO402) (Kd.slice 3 (Kd.int .i64))) 31 wc w.heap.size (fun k_ => some k_ ≠ ((.slice Ao29 t355.length co29) : Value).ownBlock ∧ some k_ ≠ ((.slice Ao36 t385.length co36) : Value).ownBlock ∧ some k_ ≠ ((.slice Ao143 t400.length co143) : Value).ownBlock) (.slice Ao46 t369.length co46) t390) ∧ Aside0 (Kd.S (KSp (fun k_ => nsp_HO402 ≤ k_) (Kd.slice 3 (Kd.int .i64))) 31 wc w.heap.size (fun k_ => some k_ ≠ ((.slice Ao29 t355.length co29) : Value).ownBlock ∧ some k_ ≠ ((.slice Ao36 t385.length co36) : Value).ownBlock ∧ some k_ ≠ ((.slice Ao46 t369.length co46) : Value).ownBlock) (.slice Ao143 t400.length co143) t400) ∧ Aside0 (wc.heap[gb345]? = some (.cells #[.int .i64 a0_0, (.slice A0_1 l0_1.length c0_1)] 24 (0, 0))) ∧ Aside0 (wc.heap[gb359]? = some (.cells #[.int .i64 t354, (.slice Ao29 t355.length co29)] 27 (0, 0))) ∧ Aside0 (wc.heap[gb364]? = some (.cells #[.int .i64 t360, (.slice Ao36 t385.length co36)] 27 (0, 0))) ∧ Aside0 (wc.heap[gb373]? = some (.cells #[.int .i64 t368, (.slice Ao46 t369.length co46)] 27 (0, 0))) ∧ Aside0 (wc.heap[gb404]? = some (.cells #[.int .i64 t399, (.slice Ao143 t400.length co143)] 27 (0, 0))) ∧ Aside0 (Below w.heap.size w wc))
             case first =>
              have H := HC121.out
              clear HC121
              replace H := Option.bind_eq_some_iff.mp H
              obtain ⟨t405, A1440, H⟩ := H
              replace H : (if t405 = true then (laws_FnExactRenamed.j2 kj73 t389 (t403 != t358) t368 t390) else (laws_FnExactRenamed.j2 kj73 t389 true t368 t390)) = some r := H
              have A144 := Aside0.mk A1440
              clear A1440
              by_cases c145 : t405 = true
              ·subst c145
               have H1 : (laws_FnExactRenamed.j2 kj73 t389 (t403 != t358) t368 t390) = some r := by rw [if_pos rfl] at H; exact H
               clear H
               have H := H1
               clear H1
               have H' := Aside0.mk H
               clear H
               have hnb146 := NB404_345.out
               have hnc146 := NB345_404.out
               have hnb147 := NB404_359.out
               have hnc147 := NB359_404.out
               have hnb148 := NB404_364.out
               have hnc148 := NB364_404.out
               have hnb149 := NB404_373.out
               have hnc149 := NB373_404.out
               have hcz150_0 : w137.cell? ⟨gb404, 0, none⟩ = some (.int .i64 0) := (Zk BK404.out 0).trans rfl
               have hcz150_1 : w137.cell? ⟨gb404, 1, none⟩ = some (.slice none 0 0) := (Zk BK404.out 1).trans rfl
               have hfz150_0 := Zl BK404.out 0
               have hfz150_1 := Zl BK404.out 1
               have hnb151 := NB359_345.out
               have hnc151 := NB345_359.out
               have hnb152 := NB359_364.out
               have hnc152 := NB364_359.out
               have hnb153 := NB359_373.out
               have hnc153 := NB373_359.out
               have hcz154_0 : w137.cell? ⟨gb359, 0, none⟩ = some (.int .i64 t354) := (Zk BK359.out 0).trans rfl
               have hcz154_1 : w137.cell? ⟨gb359, 1, none⟩ = some (.slice Ao29 t355.length co29) := (Zk BK359.out 1).trans rfl
               have hfz154_0 := Zl BK359.out 0
               have hfz154_1 := Zl BK359.out 1
               go_wp2_with (first | ((with_reducible refine ZA (f := 13) rfl ?_); refine goesL_ (some 102) rfl rfl Try.func13 (by kernel_rfl) rfl #[.agg #[.int .i64 t399, .slice Ao143 t400.length co143], .agg #[.int .i64 t354, .slice Ao29 t355.length co29]] rfl (by (try simp only [List.map_toArray, List.map_cons, List.map_nil]); first | done | rfl | (simp only [List.length_drop, List.length_take]; rfl)) ?_; (with_reducible refine (laws_eqGraph.calls kj73 t399 _ _ t400 t354 _ _ t355 true _ ?side1 ?side2 ?side3 ?side4 A144.out).mono ?_); (case side1 => exact (S_readsSp (e := 31) (base := w.heap.size) (ok := fun k_ => (((((True ∧ some k_ ≠ (.slice Ao29 t355.length co29 : Value).ownBlock) ∧ some k_ ≠ (.slice Ao36 t385.length co36 : Value).ownBlock) ∧ some k_ ≠ (.slice Ao46 t369.length co46 : Value).ownBlock) ∧ some k_ ≠ (.slice Ao134 t393.length co134 : Value).ownBlock) ∧ some k_ ≠ (.slice Ao135 t396.length co135 : Value).ownBlock)) (n := t400.length) (c := co143) (by (with_reducible repeat (first | apply Zn | apply Zm | apply Zo)); exact (Zy (ZB (p := ⟨gb404, 1, none⟩) (ZB (p := ⟨gb404, 0, none⟩) (ZJ HO402.out BK404.out (by first | decide | exact spE_ (by decide))) (fun _ hk => hk.2) (.int .i64 t399)) (fun _ hk => hk.2) (.slice Ao143 t400.length co143)) (fun _ h_ => h_.1)))).2.2); (case side2 => exact (ZF HO402.out).2.1); (case side3 => exact (S_readsSp (e := 31) (base := w.heap.size) (ok := fun k_ => ((((some k_ ≠ (.slice Ao36 t385.length co36 : Value).ownBlock ∧ some k_ ≠ (.slice Ao46 t369.length co46 : Value).ownBlock) ∧ some k_ ≠ (.slice Ao134 t393.length co134 : Value).ownBlock) ∧ some k_ ≠ (.slice Ao135 t396.length co135 : Value).ownBlock) ∧ some k_ ≠ (.slice Ao143 t400.length co143 : Value).ownBlock)) (n := t355.length) (c := co29) (by (with_reducible repeat (first | apply Zn | apply Zm | apply Zo)); exact (Zy (ZB (p := ⟨gb404, 1, none⟩) (ZB (p := ⟨gb404, 0, none⟩) (ZJ HO_360001.out BK404.out (by first | decide | exact spE_ (by decide))) (fun _ hk => hk.2) (.int .i64 t399)) (fun _ hk => hk.2) (.slice Ao143 t400.length co143)) (fun _ h_ => h_.1)))).2.2); (case side4 => exact (ZF HO_360001.out).2.1); rintro e w155 ⟨rfl, hb⟩; refine ⟨_, rfl, ?_⟩; have n0_ := Aside0.mk (ZC (by (with_reducible repeat (first | apply Zn | apply Zm | apply Zo)); exact (Zy (ZB (p := ⟨gb404, 1, none⟩) (ZB (p := ⟨gb404, 0, none⟩) (ZJ HO_360001.out BK404.out (by first | decide | exact spE_ (by decide))) (fun _ hk => hk.2) (.int .i64 t399)) (fun _ hk => hk.2) (.slice Ao143 t400.length co143)) (fun _ h_ => h_.1))) hb); have n1_ := Aside0.mk (ZC (by (with_reducible repeat (first | apply Zn | apply Zm | apply Zo)); exact (Zy (ZB (p := ⟨gb404, 1, none⟩) (ZB (p := ⟨gb404, 0, none⟩) (ZJ HO_365001.out BK404.out (by first | decide | exact spE_ (by decide))) (fun _ hk => hk.2) (.int .i64 t399)) (fun _ hk => hk.2) (.slice Ao143 t400.length co143)) (fun _ h_ => h_.1))) hb); have n2_ := Aside0.mk (ZC (by (with_reducible repeat (first | apply Zn | apply Zm | apply Zo)); exact (Zy (ZB (p := ⟨gb404, 1, none⟩) (ZB (p := ⟨gb404, 0, none⟩) (ZJ HO_374001.out BK404.out (by first | decide | exact spE_ (by decide))) (fun _ hk => hk.2) (.int .i64 t399)) (fun _ hk => hk.2) (.slice Ao143 t400.length co143)) (fun _ h_ => h_.1))) hb); have n3_ := Aside0.mk (ZC (by (with_reducible repeat (first | apply Zn | apply Zm | apply Zo)); exact (Zy (ZB (p := ⟨gb404, 1, none⟩) (ZB (p := ⟨gb404, 0, none⟩) (ZJ HO395.out BK404.out (by first | decide | exact spE_ (by decide))) (fun _ hk => hk.2) (.int .i64 t399)) (fun _ hk => hk.2) (.slice Ao143 t400.length co143)) (fun _ h_ => h_.1))) hb); have n4_ := Aside0.mk (Kd.R_below (by (with_reducible repeat (first | apply ZO | apply ZN | apply ZQ)); exact (ZR (Kd.R_far (p := ⟨gb404, 1, none⟩) (Kd.R_far (p := ⟨gb404, 0, none⟩) (Kd.R_types HO398.out BK404.out (by first | decide | exact spE_ (by decide))) (fun _ hk => hk.2) (.int .i64 t399)) (fun _ hk => hk.2) (.slice Ao143 t400.length co143)) (fun _ h_ => h_.1))) hb); have n5_ := Aside0.mk (ZC (by (with_reducible repeat (first | apply Zn | apply Zm | apply Zo)); exact (Zy (ZB (p := ⟨gb404, 1, none⟩) (ZB (p := ⟨gb404, 0, none⟩) (ZJ HO402.out BK404.out (by first | decide | exact spE_ (by decide))) (fun _ hk => hk.2) (.int .i64 t399)) (fun _ hk => hk.2) (.slice Ao143 t400.length co143)) (fun _ h_ => h_.1))) hb); have n6_ := Aside0.mk (Zp (g := gb345) (o := .cells #[.int .i64 a0_0, .slice A0_1 l0_1.length c0_1] 24 (0, 0)) (by (with_reducible repeat (first | refine Zg ?_ _ | refine Zh ?_ | refine Zf ?_ _)); refine ZP ?_ NB345_404.out _; (with_reducible repeat (first | refine Zg ?_ _ | refine Zh ?_ | refine Zf ?_ _)); refine ZP ?_ NB345_404.out _; (with_reducible repeat (first | refine Zg ?_ _ | refine Zh ?_ | refine Zf ?_ _)); exact BK345.out) hb); have n7_ := Aside0.mk (Zp (g := gb359) (o := .cells #[.int .i64 t354, .slice Ao29 t355.length co29] 27 (0, 0)) (by (with_reducible repeat (first | refine Zg ?_ _ | refine Zh ?_ | refine Zf ?_ _)); refine ZP ?_ NB359_404.out _; (with_reducible repeat (first | refine Zg ?_ _ | refine Zh ?_ | refine Zf ?_ _)); refine ZP ?_ NB359_404.out _; (with_reducible repeat (first | refine Zg ?_ _ | refine Zh ?_ | refine Zf ?_ _)); exact BK359.out) hb); have n8_ := Aside0.mk (Zp (g := gb364) (o := .cells #[.int .i64 t360, .slice Ao36 t385.length co36] 27 (0, 0)) (by (with_reducible repeat (first | refine Zg ?_ _ | refine Zh ?_ | refine Zf ?_ _)); refine ZP ?_ NB364_404.out _; (with_reducible repeat (first | refine Zg ?_ _ | refine Zh ?_ | refine Zf ?_ _)); refine ZP ?_ NB364_404.out _; (with_reducible repeat (first | refine Zg ?_ _ | refine Zh ?_ | refine Zf ?_ _)); exact BK364.out) hb); have n9_ := Aside0.mk (Zp (g := gb373) (o := .cells #[.int .i64 t368, .slice Ao46 t369.length co46] 27 (0, 0)) (by (with_reducible repeat (first | refine Zg ?_ _ | refine Zh ?_ | refine Zf ?_ _)); refine ZP ?_ NB373_404.out _; (with_reducible repeat (first | refine Zg ?_ _ | refine Zh ?_ | refine Zf ?_ _)); refine ZP ?_ NB373_404.out _; (with_reducible repeat (first | refine Zg ?_ _ | refine Zh ?_ | refine Zf ?_ _)); exact BK373.out) hb); have n10_ := Aside0.mk (Zp (g := gb404) (o := .cells #[.int .i64 t399, .slice Ao143 t400.length co143] 27 (0, 0)) (by (with_reducible repeat (first | refine Zg ?_ _ | refine Zh ?_ | refine Zf ?_ _)); refine blk_put (cs := #[.int .i64 t399, .slice none 0 0]) ?_ 1 _ rfl; (with_reducible repeat (first | refine Zg ?_ _ | refine Zh ?_ | refine Zf ?_ _)); refine blk_put (cs := #[.int .i64 0, .slice none 0 0]) ?_ 0 _ rfl; (with_reducible repeat (first | refine Zg ?_ _ | refine Zh ?_ | refine Zf ?_ _)); exact BK404.out) hb); have n11_ := Aside0.mk (Zu (by repeat (first | (with_reducible first | exact HB.out | apply Zj | apply Ze | apply Zi | refine Zd ?_ GE345.out | refine Zd ?_ GE359.out | refine Zd ?_ GE364.out | refine Zd ?_ GE373.out | refine Zd ?_ GE404.out) | exact HB.out)) hb); clear HO_360001; clear HO_365001; clear HO_374001; clear HO395; clear HO398; clear HO402; clear BK345; clear BK359; clear BK364; clear BK373; clear BK404; clear HB; have HO_360001 := n0_; have HO_365001 := n1_; have HO_374001 := n2_; have HO395 := n3_; have HO398 := n4_; have HO402 := n5_; have BK345 := n6_; have BK359 := n7_; have BK364 := n8_; have BK373 := n9_; have BK404 := n10_; have HB := n11_; clear n0_ n1_ n2_ n3_ n4_ n5_ n6_ n7_ n8_ n9_ n10_ n11_; (try clear hb); (try clear hb2); (try clear hk); (try clear hi)))
               go_meet
               case rel => exact ⟨_, ((t403 != t358)), (by first | rfl | (simp; done) | (simp [*]; done)), H', ⟨by have := HJ15.out; have := HJ73.out; first | omega | exact Nat.le_refl _⟩, ⟨by (try simp only [hl365001_73]); (with_reducible repeat (first | apply Zn | apply Zm | apply Zo)); exact Zy HO_360001.out (fun _ hk => ⟨hk.1.1.1.1, ⟨hk.1.1.1.2, hk.2⟩⟩)⟩, ⟨by (try simp only [hl365001_73]); (with_reducible repeat (first | apply Zn | apply Zm | apply Zo)); exact Zy HO_365001.out (fun _ hk => ⟨hk.1.1.1.1, ⟨hk.1.1.1.2, hk.2⟩⟩)⟩, ⟨by (try simp only [hl365001_73]); (with_reducible repeat (first | apply Zn | apply Zm | apply Zo)); exact Zy HO_374001.out (fun _ hk => ⟨hk.1.1.1.1, ⟨hk.1.1.1.2, hk.2⟩⟩)⟩, ⟨by (try simp only [hl365001_73]); (with_reducible repeat (first | apply Zn | apply Zm | apply Zo)); exact Zy HO402.out (fun _ hk => ⟨hk.1.1.1.1.2, ⟨hk.1.1.1.2, hk.1.1.2⟩⟩)⟩, ⟨by (try simp only [hl365001_73]); (with_reducible repeat (first | refine Zg ?_ _ | refine Zh ?_ | refine Zf ?_ _)); exact BK345.out⟩, ⟨by (try simp only [hl365001_73]); (with_reducible repeat (first | refine Zg ?_ _ | refine Zh ?_ | refine Zf ?_ _)); exact BK359.out⟩, ⟨by (try simp only [hl365001_73]); (with_reducible repeat (first | refine Zg ?_ _ | refine Zh ?_ | refine Zf ?_ _)); exact BK364.out⟩, ⟨by (try simp only [hl365001_73]); (with_reducible repeat (first | refine Zg ?_ _ | refine Zh ?_ | refine Zf ?_ _)); exact BK373.out⟩, ⟨by (try simp only [hl365001_73]); (with_reducible repeat (first | refine Zg ?_ _ | refine Zh ?_ | refine Zf ?_ _)); exact BK404.out⟩, ⟨by repeat (first | (with_reducible first | exact HB.out | apply Zj | apply Ze | apply Zi | refine Zd ?_ GE345.out | refine Zd ?_ GE359.out | refine Zd ?_ GE364.out | refine Zd ?_ GE373.out | refine Zd ?_ GE404.out) | exact HB.out)⟩⟩
              ·replace c145 := Bool.eq_false_iff.mpr c145
               subst c145
               have H1 : (laws_FnExactRenamed.j2 kj73 t389 true t368 t390) = some r := by rw [if_neg (show ¬ (false = true) by decide)] at H; exact H
               clear H
               have H := H1
               clear H1
               have H' := Aside0.mk H
               clear H
               have hnb156 := NB404_345.out
               have hnc156 := NB345_404.out
               have hnb157 := NB404_359.out
               have hnc157 := NB359_404.out
               have hnb158 := NB404_364.out
               have hnc158 := NB364_404.out
               have hnb159 := NB404_373.out
               have hnc159 := NB373_404.out
               have hcz160_0 : w137.cell? ⟨gb404, 0, none⟩ = some (.int .i64 0) := (Zk BK404.out 0).trans rfl
               have hcz160_1 : w137.cell? ⟨gb404, 1, none⟩ = some (.slice none 0 0) := (Zk BK404.out 1).trans rfl
               have hfz160_0 := Zl BK404.out 0
               have hfz160_1 := Zl BK404.out 1
               have hnb161 := NB359_345.out
               have hnc161 := NB345_359.out
               have hnb162 := NB359_364.out
               have hnc162 := NB364_359.out
               have hnb163 := NB359_373.out
               have hnc163 := NB373_359.out
               have hcz164_0 : w137.cell? ⟨gb359, 0, none⟩ = some (.int .i64 t354) := (Zk BK359.out 0).trans rfl
               have hcz164_1 : w137.cell? ⟨gb359, 1, none⟩ = some (.slice Ao29 t355.length co29) := (Zk BK359.out 1).trans rfl
               have hfz164_0 := Zl BK359.out 0
               have hfz164_1 := Zl BK359.out 1
               go_wp2_with (first | ((with_reducible refine ZA (f := 13) rfl ?_); refine goesL_ (some 102) rfl rfl Try.func13 (by kernel_rfl) rfl #[.agg #[.int .i64 t399, .slice Ao143 t400.length co143], .agg #[.int .i64 t354, .slice Ao29 t355.length co29]] rfl (by (try simp only [List.map_toArray, List.map_cons, List.map_nil]); first | done | rfl | (simp only [List.length_drop, List.length_take]; rfl)) ?_; (with_reducible refine (laws_eqGraph.calls kj73 t399 _ _ t400 t354 _ _ t355 false _ ?side1 ?side2 ?side3 ?side4 A144.out).mono ?_); (case side1 => exact (S_readsSp (e := 31) (base := w.heap.size) (ok := fun k_ => (((((True ∧ some k_ ≠ (.slice Ao29 t355.length co29 : Value).ownBlock) ∧ some k_ ≠ (.slice Ao36 t385.length co36 : Value).ownBlock) ∧ some k_ ≠ (.slice Ao46 t369.length co46 : Value).ownBlock) ∧ some k_ ≠ (.slice Ao134 t393.length co134 : Value).ownBlock) ∧ some k_ ≠ (.slice Ao135 t396.length co135 : Value).ownBlock)) (n := t400.length) (c := co143) (by (with_reducible repeat (first | apply Zn | apply Zm | apply Zo)); exact (Zy (ZB (p := ⟨gb404, 1, none⟩) (ZB (p := ⟨gb404, 0, none⟩) (ZJ HO402.out BK404.out (by first | decide | exact spE_ (by decide))) (fun _ hk => hk.2) (.int .i64 t399)) (fun _ hk => hk.2) (.slice Ao143 t400.length co143)) (fun _ h_ => h_.1)))).2.2); (case side2 => exact (ZF HO402.out).2.1); (case side3 => exact (S_readsSp (e := 31) (base := w.heap.size) (ok := fun k_ => ((((some k_ ≠ (.slice Ao36 t385.length co36 : Value).ownBlock ∧ some k_ ≠ (.slice Ao46 t369.length co46 : Value).ownBlock) ∧ some k_ ≠ (.slice Ao134 t393.length co134 : Value).ownBlock) ∧ some k_ ≠ (.slice Ao135 t396.length co135 : Value).ownBlock) ∧ some k_ ≠ (.slice Ao143 t400.length co143 : Value).ownBlock)) (n := t355.length) (c := co29) (by (with_reducible repeat (first | apply Zn | apply Zm | apply Zo)); exact (Zy (ZB (p := ⟨gb404, 1, none⟩) (ZB (p := ⟨gb404, 0, none⟩) (ZJ HO_360001.out BK404.out (by first | decide | exact spE_ (by decide))) (fun _ hk => hk.2) (.int .i64 t399)) (fun _ hk => hk.2) (.slice Ao143 t400.length co143)) (fun _ h_ => h_.1)))).2.2); (case side4 => exact (ZF HO_360001.out).2.1); rintro e w165 ⟨rfl, hb⟩; refine ⟨_, rfl, ?_⟩; have n0_ := Aside0.mk (ZC (by (with_reducible repeat (first | apply Zn | apply Zm | apply Zo)); exact (Zy (ZB (p := ⟨gb404, 1, none⟩) (ZB (p := ⟨gb404, 0, none⟩) (ZJ HO_360001.out BK404.out (by first | decide | exact spE_ (by decide))) (fun _ hk => hk.2) (.int .i64 t399)) (fun _ hk => hk.2) (.slice Ao143 t400.length co143)) (fun _ h_ => h_.1))) hb); have n1_ := Aside0.mk (ZC (by (with_reducible repeat (first | apply Zn | apply Zm | apply Zo)); exact (Zy (ZB (p := ⟨gb404, 1, none⟩) (ZB (p := ⟨gb404, 0, none⟩) (ZJ HO_365001.out BK404.out (by first | decide | exact spE_ (by decide))) (fun _ hk => hk.2) (.int .i64 t399)) (fun _ hk => hk.2) (.slice Ao143 t400.length co143)) (fun _ h_ => h_.1))) hb); have n2_ := Aside0.mk (ZC (by (with_reducible repeat (first | apply Zn | apply Zm | apply Zo)); exact (Zy (ZB (p := ⟨gb404, 1, none⟩) (ZB (p := ⟨gb404, 0, none⟩) (ZJ HO_374001.out BK404.out (by first | decide | exact spE_ (by decide))) (fun _ hk => hk.2) (.int .i64 t399)) (fun _ hk => hk.2) (.slice Ao143 t400.length co143)) (fun _ h_ => h_.1))) hb); have n3_ := Aside0.mk (ZC (by (with_reducible repeat (first | apply Zn | apply Zm | apply Zo)); exact (Zy (ZB (p := ⟨gb404, 1, none⟩) (ZB (p := ⟨gb404, 0, none⟩) (ZJ HO395.out BK404.out (by first | decide | exact spE_ (by decide))) (fun _ hk => hk.2) (.int .i64 t399)) (fun _ hk => hk.2) (.slice Ao143 t400.length co143)) (fun _ h_ => h_.1))) hb); have n4_ := Aside0.mk (Kd.R_below (by (with_reducible repeat (first | apply ZO | apply ZN | apply ZQ)); exact (ZR (Kd.R_far (p := ⟨gb404, 1, none⟩) (Kd.R_far (p := ⟨gb404, 0, none⟩) (Kd.R_types HO398.out BK404.out (by first | decide | exact spE_ (by decide))) (fun _ hk => hk.2) (.int .i64 t399)) (fun _ hk => hk.2) (.slice Ao143 t400.length co143)) (fun _ h_ => h_.1))) hb); have n5_ := Aside0.mk (ZC (by (with_reducible repeat (first | apply Zn | apply Zm | apply Zo)); exact (Zy (ZB (p := ⟨gb404, 1, none⟩) (ZB (p := ⟨gb404, 0, none⟩) (ZJ HO402.out BK404.out (by first | decide | exact spE_ (by decide))) (fun _ hk => hk.2) (.int .i64 t399)) (fun _ hk => hk.2) (.slice Ao143 t400.length co143)) (fun _ h_ => h_.1))) hb); have n6_ := Aside0.mk (Zp (g := gb345) (o := .cells #[.int .i64 a0_0, .slice A0_1 l0_1.length c0_1] 24 (0, 0)) (by (with_reducible repeat (first | refine Zg ?_ _ | refine Zh ?_ | refine Zf ?_ _)); refine ZP ?_ NB345_404.out _; (with_reducible repeat (first | refine Zg ?_ _ | refine Zh ?_ | refine Zf ?_ _)); refine ZP ?_ NB345_404.out _; (with_reducible repeat (first | refine Zg ?_ _ | refine Zh ?_ | refine Zf ?_ _)); exact BK345.out) hb); have n7_ := Aside0.mk (Zp (g := gb359) (o := .cells #[.int .i64 t354, .slice Ao29 t355.length co29] 27 (0, 0)) (by (with_reducible repeat (first | refine Zg ?_ _ | refine Zh ?_ | refine Zf ?_ _)); refine ZP ?_ NB359_404.out _; (with_reducible repeat (first | refine Zg ?_ _ | refine Zh ?_ | refine Zf ?_ _)); refine ZP ?_ NB359_404.out _; (with_reducible repeat (first | refine Zg ?_ _ | refine Zh ?_ | refine Zf ?_ _)); exact BK359.out) hb); have n8_ := Aside0.mk (Zp (g := gb364) (o := .cells #[.int .i64 t360, .slice Ao36 t385.length co36] 27 (0, 0)) (by (with_reducible repeat (first | refine Zg ?_ _ | refine Zh ?_ | refine Zf ?_ _)); refine ZP ?_ NB364_404.out _; (with_reducible repeat (first | refine Zg ?_ _ | refine Zh ?_ | refine Zf ?_ _)); refine ZP ?_ NB364_404.out _; (with_reducible repeat (first | refine Zg ?_ _ | refine Zh ?_ | refine Zf ?_ _)); exact BK364.out) hb); have n9_ := Aside0.mk (Zp (g := gb373) (o := .cells #[.int .i64 t368, .slice Ao46 t369.length co46] 27 (0, 0)) (by (with_reducible repeat (first | refine Zg ?_ _ | refine Zh ?_ | refine Zf ?_ _)); refine ZP ?_ NB373_404.out _; (with_reducible repeat (first | refine Zg ?_ _ | refine Zh ?_ | refine Zf ?_ _)); refine ZP ?_ NB373_404.out _; (with_reducible repeat (first | refine Zg ?_ _ | refine Zh ?_ | refine Zf ?_ _)); exact BK373.out) hb); have n10_ := Aside0.mk (Zp (g := gb404) (o := .cells #[.int .i64 t399, .slice Ao143 t400.length co143] 27 (0, 0)) (by (with_reducible repeat (first | refine Zg ?_ _ | refine Zh ?_ | refine Zf ?_ _)); refine blk_put (cs := #[.int .i64 t399, .slice none 0 0]) ?_ 1 _ rfl; (with_reducible repeat (first | refine Zg ?_ _ | refine Zh ?_ | refine Zf ?_ _)); refine blk_put (cs := #[.int .i64 0, .slice none 0 0]) ?_ 0 _ rfl; (with_reducible repeat (first | refine Zg ?_ _ | refine Zh ?_ | refine Zf ?_ _)); exact BK404.out) hb); have n11_ := Aside0.mk (Zu (by repeat (first | (with_reducible first | exact HB.out | apply Zj | apply Ze | apply Zi | refine Zd ?_ GE345.out | refine Zd ?_ GE359.out | refine Zd ?_ GE364.out | refine Zd ?_ GE373.out | refine Zd ?_ GE404.out) | exact HB.out)) hb); clear HO_360001; clear HO_365001; clear HO_374001; clear HO395; clear HO398; clear HO402; clear BK345; clear BK359; clear BK364; clear BK373; clear BK404; clear HB; have HO_360001 := n0_; have HO_365001 := n1_; have HO_374001 := n2_; have HO395 := n3_; have HO398 := n4_; have HO402 := n5_; have BK345 := n6_; have BK359 := n7_; have BK364 := n8_; have BK373 := n9_; have BK404 := n10_; have HB := n11_; clear n0_ n1_ n2_ n3_ n4_ n5_ n6_ n7_ n8_ n9_ n10_ n11_; (try clear hb); (try clear hb2); (try clear hk); (try clear hi)))
               go_meet
               case rel => exact ⟨_, (true), (by first | rfl | (simp; done) | (simp [*]; done)), H', ⟨by have := HJ15.out; have := HJ73.out; first | omega | exact Nat.le_refl _⟩, ⟨by (try simp only [hl365001_73]); (with_reducible repeat (first | apply Zn | apply Zm | apply Zo)); exact Zy HO_360001.out (fun _ hk => ⟨hk.1.1.1.1, ⟨hk.1.1.1.2, hk.2⟩⟩)⟩, ⟨by (try simp only [hl365001_73]); (with_reducible repeat (first | apply Zn | apply Zm | apply Zo)); exact Zy HO_365001.out (fun _ hk => ⟨hk.1.1.1.1, ⟨hk.1.1.1.2, hk.2⟩⟩)⟩, ⟨by (try simp only [hl365001_73]); (with_reducible repeat (first | apply Zn | apply Zm | apply Zo)); exact Zy HO_374001.out (fun _ hk => ⟨hk.1.1.1.1, ⟨hk.1.1.1.2, hk.2⟩⟩)⟩, ⟨by (try simp only [hl365001_73]); (with_reducible repeat (first | apply Zn | apply Zm | apply Zo)); exact Zy HO402.out (fun _ hk => ⟨hk.1.1.1.1.2, ⟨hk.1.1.1.2, hk.1.1.2⟩⟩)⟩, ⟨by (try simp only [hl365001_73]); (with_reducible repeat (first | refine Zg ?_ _ | refine Zh ?_ | refine Zf ?_ _)); exact BK345.out⟩, ⟨by (try simp only [hl365001_73]); (with_reducible repeat (first | refine Zg ?_ _ | refine Zh ?_ | refine Zf ?_ _)); exact BK359.out⟩, ⟨by (try simp only [hl365001_73]); (with_reducible repeat (first | refine Zg ?_ _ | refine Zh ?_ | refine Zf ?_ _)); exact BK364.out⟩, ⟨by (try simp only [hl365001_73]); (with_reducible repeat (first | refine Zg ?_ _ | refine Zh ?_ | refine Zf ?_ _)); exact BK373.out⟩, ⟨by (try simp only [hl365001_73]); (with_reducible repeat (first | refine Zg ?_ _ | refine Zh ?_ | refine Zf ?_ _)); exact BK404.out⟩, ⟨by repeat (first | (with_reducible first | exact HB.out | apply Zj | apply Ze | apply Zi | refine Zd ?_ GE345.out | refine Zd ?_ GE359.out | refine Zd ?_ GE364.out | refine Zd ?_ GE373.out | refine Zd ?_ GE404.out) | exact HB.out)⟩⟩
             case rest =>
              clear HC121
              try clear c1
              try clear c2
              try clear p2
              try clear c3
              try clear c3b0
              try clear c3b1
              try clear c4
              try clear c5
              try clear c6
              try clear c6b0
              try clear c7
              try clear c8
              try clear c9
              try clear c10
              try clear c11
              try clear c12
              try clear c13
              try clear c14
              try clear c15
              try clear c16
              try clear c17
              try clear c27
              try clear c33
              try clear c34
              try clear c42
              try clear c43
              try clear c44
              try clear c48
              try clear c49
              try clear c50
              try clear c51
              try clear c52
              try clear c53
              try clear c54
              try clear c55
              try clear c57
              try clear c58
              try clear c59
              try clear c61
              try clear c62
              try clear c65
              try clear c68
              try clear c71
              try clear c81
              try clear c82
              try clear c83
              try clear c87
              try clear c87b0
              try clear c89
              try clear c90
              try clear c91
              try clear c92
              try clear c94
              try clear c95
              try clear c98
              try clear c99
              try clear c100
              try clear c102
              try clear c103
              try clear c106
              try clear c109
              try clear c109b0
              try clear c110
              try clear c111
              try clear c112
              try clear c117
              try clear c117b0
              try clear c117b1
              try clear c122
              try clear c123
              try clear c124
              try clear c129
              try clear c130
              try clear c138
              try clear c139
              try clear c140
              try clear c141
              try clear c145
              try clear c146
              try clear c147
              try clear c148
              try clear c149
              try clear c151
              try clear c152
              try clear c153
              try clear c156
              try clear c157
              try clear c158
              try clear c159
              try clear c161
              try clear c162
              try clear c163
              try clear hcz101_0
              try clear hcz101_1
              try clear hcz104_0
              try clear hcz104_1
              try clear hcz113_0
              try clear hcz113_1
              try clear hcz115_0
              try clear hcz115_1
              try clear hcz125_0
              try clear hcz125_1
              try clear hcz127_0
              try clear hcz127_1
              try clear hcz131_0
              try clear hcz131_1
              try clear hcz142_0
              try clear hcz142_1
              try clear hcz150_0
              try clear hcz150_1
              try clear hcz154_0
              try clear hcz154_1
              try clear hcz160_0
              try clear hcz160_1
              try clear hcz164_0
              try clear hcz164_1
              try clear hcz18_0
              try clear hcz18_1
              try clear hcz20_0
              try clear hcz20_1
              try clear hcz28_0
              try clear hcz28_1
              try clear hcz30_0
              try clear hcz30_1
              try clear hcz35_0
              try clear hcz35_1
              try clear hcz38_0
              try clear hcz38_1
              try clear hcz45_0
              try clear hcz45_1
              try clear hcz52_0
              try clear hcz52_1
              try clear hcz55_0
              try clear hcz55_1
              try clear hcz60_0
              try clear hcz60_1
              try clear hcz63_0
              try clear hcz63_1
              try clear hcz84_0
              try clear hcz84_1
              try clear hcz8_0
              try clear hcz8_1
              try clear hcz93_0
              try clear hcz93_1
              try clear hcz96_0
              try clear hcz96_1
              try clear hfz101_0
              try clear hfz101_1
              try clear hfz104_0
              try clear hfz104_1
              try clear hfz113_0
              try clear hfz113_1
              try clear hfz115_0
              try clear hfz115_1
              try clear hfz125_0
              try clear hfz125_1
              try clear hfz127_0
              try clear hfz127_1
              try clear hfz131_0
              try clear hfz131_1
              try clear hfz142_0
              try clear hfz142_1
              try clear hfz150_0
              try clear hfz150_1
              try clear hfz154_0
              try clear hfz154_1
              try clear hfz160_0
              try clear hfz160_1
              try clear hfz164_0
              try clear hfz164_1
              try clear hfz18_0
              try clear hfz18_1
              try clear hfz20_0
              try clear hfz20_1
              try clear hfz28_0
              try clear hfz28_1
              try clear hfz30_0
              try clear hfz30_1
              try clear hfz35_0
              try clear hfz35_1
              try clear hfz38_0
              try clear hfz38_1
              try clear hfz45_0
              try clear hfz45_1
              try clear hfz52_0
              try clear hfz52_1
              try clear hfz55_0
              try clear hfz55_1
              try clear hfz60_0
              try clear hfz60_1
              try clear hfz63_0
              try clear hfz63_1
              try clear hfz84_0
              try clear hfz84_1
              try clear hfz8_0
              try clear hfz8_1
              try clear hfz93_0
              try clear hfz93_1
              try clear hfz96_0
              try clear hfz96_1
              try clear p2
              obtain ⟨kq, x108_120, rfl, HA, HJ120, HO_360001, HO_365001, HO_374001, HO_405001, BK345, BK359, BK364, BK373, BK404, HB⟩ := hcut
              have hl374001_120 := (ZF HO_374001.out).1
              rw [hl374001_120] at HO_374001
              (try simp only [hl374001_120])
              (try simp only [hl374001_120] at BK345)
              (try simp only [hl374001_120] at BK359)
              (try simp only [hl374001_120] at BK364)
              (try simp only [hl374001_120] at BK373)
              (try simp only [hl374001_120] at BK404)
              (try simp only [hl374001_120] at HO_360001)
              (try simp only [hl374001_120] at HO_365001)
              (try simp only [hl374001_120] at HO_405001)
              cases kq with
              | zero => exact absurd HA.out (by simp [laws_FnExactRenamed.j2])
              | succ kj120 =>
               have H := HA.out
               clear HA
               simp only [laws_FnExactRenamed.j2] at H
               by_cases c166 : x108_120 = true
               ·subst c166
                have H1 : (some false) = some r := by rw [if_pos rfl] at H; exact H
                clear H
                have H := H1
                clear H1
                obtain rfl := Option.some.inj H
                go_wp2
                all_goals go_ret
                all_goals exact ⟨by first | rfl | (simp [errW_none, errW_some] <;> rfl) | (simp [*, errW_none, errW_some] <;> rfl), by repeat (first | (with_reducible first | exact HB.out | apply Zj | apply Ze | apply Zi | refine Zd ?_ GE345.out | refine Zd ?_ GE359.out | refine Zd ?_ GE364.out | refine Zd ?_ GE373.out | refine Zd ?_ GE404.out) | exact HB.out)⟩
               ·replace c166 := Bool.eq_false_iff.mpr c166
                subst c166
                have H1 : ((laws_heldGraph.f kj120 t368 t390 1).bind fun t406 => (if t406 < 0 then (some false) else (if t406 = t389 then (some true) else (some false)))) = some r := by rw [if_neg (show ¬ (false = true) by decide)] at H; exact H
                clear H
                have H := H1
                clear H1
                replace H := Option.bind_eq_some_iff.mp H
                obtain ⟨t406, A1670, H⟩ := H
                replace H : (if t406 < 0 then (some false) else (if t406 = t389 then (some true) else (some false))) = some r := H
                have A167 := Aside0.mk A1670
                clear A1670
                by_cases c168 : t406 < 0
                ·rw [if_pos c168] at H
                 have c168b0 : decide (t406 < 0) = true := decide_eq_true c168
                 clear c168
                 obtain rfl := Option.some.inj H
                 have hnb169 := NB373_345.out
                 have hnc169 := NB345_373.out
                 have hnb170 := NB373_359.out
                 have hnc170 := NB359_373.out
                 have hnb171 := NB373_364.out
                 have hnc171 := NB364_373.out
                 have hnb172 := NB373_404.out
                 have hnc172 := NB404_373.out
                 have hcz173_0 : wc.cell? ⟨gb373, 0, none⟩ = some (.int .i64 t368) := (Zk BK373.out 0).trans rfl
                 have hcz173_1 : wc.cell? ⟨gb373, 1, none⟩ = some (.slice Ao46 t390.length co46) := (Zk BK373.out 1).trans rfl
                 have hfz173_0 := Zl BK373.out 0
                 have hfz173_1 := Zl BK373.out 1
                 go_wp2_with (first | ((with_reducible refine ZA (f := 55) rfl ?_); refine goesL_ (some 111) rfl rfl Try.func55 (by kernel_rfl) rfl #[.agg #[.int .i64 t368, .slice Ao46 t390.length co46], .int .i64 1] rfl (by (try simp only [List.map_toArray, List.map_cons, List.map_nil]); first | done | rfl | (simp only [List.length_drop, List.length_take]; rfl)) ?_; (with_reducible refine (laws_heldGraph.calls kj120 t368 _ _ t390 1 t406 _ ?side1 ?side2 A167.out).mono ?_); (case side1 => repeat (first | exact (ZF HO_374001.out).2.2 | (with_reducible refine Zw ?_ _) | (with_reducible refine Zv ?_ _) | (with_reducible refine Zz ?_))); (case side2 => exact (ZF HO_374001.out).2.1); rintro e w174 ⟨rfl, hb⟩; refine ⟨_, rfl, ?_⟩; have n0_ := Aside0.mk (ZC (by (with_reducible repeat (first | apply Zn | apply Zm | apply Zo)); exact HO_360001.out) hb); have n1_ := Aside0.mk (ZC (by (with_reducible repeat (first | apply Zn | apply Zm | apply Zo)); exact HO_365001.out) hb); have n2_ := Aside0.mk (ZC (by (with_reducible repeat (first | apply Zn | apply Zm | apply Zo)); exact HO_374001.out) hb); have n3_ := Aside0.mk (ZC (by (with_reducible repeat (first | apply Zn | apply Zm | apply Zo)); exact HO_405001.out) hb); have n4_ := Aside0.mk (Zp (g := gb345) (o := .cells #[.int .i64 a0_0, .slice A0_1 l0_1.length c0_1] 24 (0, 0)) (by (with_reducible repeat (first | refine Zg ?_ _ | refine Zh ?_ | refine Zf ?_ _)); exact BK345.out) hb); have n5_ := Aside0.mk (Zp (g := gb359) (o := .cells #[.int .i64 t354, .slice Ao29 t355.length co29] 27 (0, 0)) (by (with_reducible repeat (first | refine Zg ?_ _ | refine Zh ?_ | refine Zf ?_ _)); exact BK359.out) hb); have n6_ := Aside0.mk (Zp (g := gb364) (o := .cells #[.int .i64 t360, .slice Ao36 t385.length co36] 27 (0, 0)) (by (with_reducible repeat (first | refine Zg ?_ _ | refine Zh ?_ | refine Zf ?_ _)); exact BK364.out) hb); have n7_ := Aside0.mk (Zp (g := gb373) (o := .cells #[.int .i64 t368, .slice Ao46 t390.length co46] 27 (0, 0)) (by (with_reducible repeat (first | refine Zg ?_ _ | refine Zh ?_ | refine Zf ?_ _)); exact BK373.out) hb); have n8_ := Aside0.mk (Zp (g := gb404) (o := .cells #[.int .i64 t399, .slice Ao143 t400.length co143] 27 (0, 0)) (by (with_reducible repeat (first | refine Zg ?_ _ | refine Zh ?_ | refine Zf ?_ _)); exact BK404.out) hb); have n9_ := Aside0.mk (Zu (by repeat (first | (with_reducible first | exact HB.out | apply Zj | apply Ze | apply Zi | refine Zd ?_ GE345.out | refine Zd ?_ GE359.out | refine Zd ?_ GE364.out | refine Zd ?_ GE373.out | refine Zd ?_ GE404.out) | exact HB.out)) hb); clear HO_360001; clear HO_365001; clear HO_374001; clear HO_405001; clear BK345; clear BK359; clear BK364; clear BK373; clear BK404; clear HB; have HO_360001 := n0_; have HO_365001 := n1_; have HO_374001 := n2_; have HO_405001 := n3_; have BK345 := n4_; have BK359 := n5_; have BK364 := n6_; have BK373 := n7_; have BK404 := n8_; have HB := n9_; clear n0_ n1_ n2_ n3_ n4_ n5_ n6_ n7_ n8_ n9_; (try clear hb); (try clear hb2); (try clear hk); (try clear hi)))
                 all_goals go_ret
                 all_goals exact ⟨by first | rfl | (simp [errW_none, errW_some] <;> rfl) | (simp [*, errW_none, errW_some] <;> rfl), by repeat (first | (with_reducible first | exact HB.out | apply Zj | apply Ze | apply Zi | refine Zd ?_ GE345.out | refine Zd ?_ GE359.out | refine Zd ?_ GE364.out | refine Zd ?_ GE373.out | refine Zd ?_ GE404.out) | exact HB.out)⟩
                ·rw [if_neg c168] at H
                 have c168b0 : decide (t406 < 0) = false := decide_eq_false c168
                 clear c168
                 by_cases c175 : t406 = t389
                 ·rw [if_pos c175] at H
                  have c175b0 : (t406 == t389) = true := beq_iff_eq.mpr c175
                  have c175b1 : (t406 != t389) = false := bne_eq_false_iff_eq.mpr c175
                  clear c175
                  obtain rfl := Option.some.inj H
                  have hnb176 := NB373_345.out
                  have hnc176 := NB345_373.out
                  have hnb177 := NB373_359.out
                  have hnc177 := NB359_373.out
                  have hnb178 := NB373_364.out
                  have hnc178 := NB364_373.out
                  have hnb179 := NB373_404.out
                  have hnc179 := NB404_373.out
                  have hcz180_0 : wc.cell? ⟨gb373, 0, none⟩ = some (.int .i64 t368) := (Zk BK373.out 0).trans rfl
                  have hcz180_1 : wc.cell? ⟨gb373, 1, none⟩ = some (.slice Ao46 t390.length co46) := (Zk BK373.out 1).trans rfl
                  have hfz180_0 := Zl BK373.out 0
                  have hfz180_1 := Zl BK373.out 1
                  go_wp2_with (first | ((with_reducible refine ZA (f := 55) rfl ?_); refine goesL_ (some 111) rfl rfl Try.func55 (by kernel_rfl) rfl #[.agg #[.int .i64 t368, .slice Ao46 t390.length co46], .int .i64 1] rfl (by (try simp only [List.map_toArray, List.map_cons, List.map_nil]); first | done | rfl | (simp only [List.length_drop, List.length_take]; rfl)) ?_; (with_reducible refine (laws_heldGraph.calls kj120 t368 _ _ t390 1 t406 _ ?side1 ?side2 A167.out).mono ?_); (case side1 => repeat (first | exact (ZF HO_374001.out).2.2 | (with_reducible refine Zw ?_ _) | (with_reducible refine Zv ?_ _) | (with_reducible refine Zz ?_))); (case side2 => exact (ZF HO_374001.out).2.1); rintro e w181 ⟨rfl, hb⟩; refine ⟨_, rfl, ?_⟩; have n0_ := Aside0.mk (ZC (by (with_reducible repeat (first | apply Zn | apply Zm | apply Zo)); exact HO_360001.out) hb); have n1_ := Aside0.mk (ZC (by (with_reducible repeat (first | apply Zn | apply Zm | apply Zo)); exact HO_365001.out) hb); have n2_ := Aside0.mk (ZC (by (with_reducible repeat (first | apply Zn | apply Zm | apply Zo)); exact HO_374001.out) hb); have n3_ := Aside0.mk (ZC (by (with_reducible repeat (first | apply Zn | apply Zm | apply Zo)); exact HO_405001.out) hb); have n4_ := Aside0.mk (Zp (g := gb345) (o := .cells #[.int .i64 a0_0, .slice A0_1 l0_1.length c0_1] 24 (0, 0)) (by (with_reducible repeat (first | refine Zg ?_ _ | refine Zh ?_ | refine Zf ?_ _)); exact BK345.out) hb); have n5_ := Aside0.mk (Zp (g := gb359) (o := .cells #[.int .i64 t354, .slice Ao29 t355.length co29] 27 (0, 0)) (by (with_reducible repeat (first | refine Zg ?_ _ | refine Zh ?_ | refine Zf ?_ _)); exact BK359.out) hb); have n6_ := Aside0.mk (Zp (g := gb364) (o := .cells #[.int .i64 t360, .slice Ao36 t385.length co36] 27 (0, 0)) (by (with_reducible repeat (first | refine Zg ?_ _ | refine Zh ?_ | refine Zf ?_ _)); exact BK364.out) hb); have n7_ := Aside0.mk (Zp (g := gb373) (o := .cells #[.int .i64 t368, .slice Ao46 t390.length co46] 27 (0, 0)) (by (with_reducible repeat (first | refine Zg ?_ _ | refine Zh ?_ | refine Zf ?_ _)); exact BK373.out) hb); have n8_ := Aside0.mk (Zp (g := gb404) (o := .cells #[.int .i64 t399, .slice Ao143 t400.length co143] 27 (0, 0)) (by (with_reducible repeat (first | refine Zg ?_ _ | refine Zh ?_ | refine Zf ?_ _)); exact BK404.out) hb); have n9_ := Aside0.mk (Zu (by repeat (first | (with_reducible first | exact HB.out | apply Zj | apply Ze | apply Zi | refine Zd ?_ GE345.out | refine Zd ?_ GE359.out | refine Zd ?_ GE364.out | refine Zd ?_ GE373.out | refine Zd ?_ GE404.out) | exact HB.out)) hb); clear HO_360001; clear HO_365001; clear HO_374001; clear HO_405001; clear BK345; clear BK359; clear BK364; clear BK373; clear BK404; clear HB; have HO_360001 := n0_; have HO_365001 := n1_; have HO_374001 := n2_; have HO_405001 := n3_; have BK345 := n4_; have BK359 := n5_; have BK364 := n6_; have BK373 := n7_; have BK404 := n8_; have HB := n9_; clear n0_ n1_ n2_ n3_ n4_ n5_ n6_ n7_ n8_ n9_; (try clear hb); (try clear hb2); (try clear hk); (try clear hi)))
                  all_goals go_ret
                  all_goals exact ⟨by first | rfl | (simp [errW_none, errW_some] <;> rfl) | (simp [*, errW_none, errW_some] <;> rfl), by repeat (first | (with_reducible first | exact HB.out | apply Zj | apply Ze | apply Zi | refine Zd ?_ GE345.out | refine Zd ?_ GE359.out | refine Zd ?_ GE364.out | refine Zd ?_ GE373.out | refine Zd ?_ GE404.out) | exact HB.out)⟩
                 ·rw [if_neg c175] at H
                  have c175b0 : (t406 == t389) = false := beq_eq_false_iff_ne.mpr c175
                  have c175b1 : (t406 != t389) = true := bne_iff_ne.mpr c175
                  obtain rfl := Option.some.inj H
                  have hnb182 := NB373_345.out
                  have hnc182 := NB345_373.out
                  have hnb183 := NB373_359.out
                  have hnc183 := NB359_373.out
                  have hnb184 := NB373_364.out
                  have hnc184 := NB364_373.out
                  have hnb185 := NB373_404.out
                  have hnc185 := NB404_373.out
                  have hcz186_0 : wc.cell? ⟨gb373, 0, none⟩ = some (.int .i64 t368) := (Zk BK373.out 0).trans rfl
                  have hcz186_1 : wc.cell? ⟨gb373, 1, none⟩ = some (.slice Ao46 t390.length co46) := (Zk BK373.out 1).trans rfl
                  have hfz186_0 := Zl BK373.out 0
                  have hfz186_1 := Zl BK373.out 1
                  go_wp2_with (first | ((with_reducible refine ZA (f := 55) rfl ?_); refine goesL_ (some 111) rfl rfl Try.func55 (by kernel_rfl) rfl #[.agg #[.int .i64 t368, .slice Ao46 t390.length co46], .int .i64 1] rfl (by (try simp only [List.map_toArray, List.map_cons, List.map_nil]); first | done | rfl | (simp only [List.length_drop, List.length_take]; rfl)) ?_; (with_reducible refine (laws_heldGraph.calls kj120 t368 _ _ t390 1 t406 _ ?side1 ?side2 A167.out).mono ?_); (case side1 => repeat (first | exact (ZF HO_374001.out).2.2 | (with_reducible refine Zw ?_ _) | (with_reducible refine Zv ?_ _) | (with_reducible refine Zz ?_))); (case side2 => exact (ZF HO_374001.out).2.1); rintro e w187 ⟨rfl, hb⟩; refine ⟨_, rfl, ?_⟩; have n0_ := Aside0.mk (ZC (by (with_reducible repeat (first | apply Zn | apply Zm | apply Zo)); exact HO_360001.out) hb); have n1_ := Aside0.mk (ZC (by (with_reducible repeat (first | apply Zn | apply Zm | apply Zo)); exact HO_365001.out) hb); have n2_ := Aside0.mk (ZC (by (with_reducible repeat (first | apply Zn | apply Zm | apply Zo)); exact HO_374001.out) hb); have n3_ := Aside0.mk (ZC (by (with_reducible repeat (first | apply Zn | apply Zm | apply Zo)); exact HO_405001.out) hb); have n4_ := Aside0.mk (Zp (g := gb345) (o := .cells #[.int .i64 a0_0, .slice A0_1 l0_1.length c0_1] 24 (0, 0)) (by (with_reducible repeat (first | refine Zg ?_ _ | refine Zh ?_ | refine Zf ?_ _)); exact BK345.out) hb); have n5_ := Aside0.mk (Zp (g := gb359) (o := .cells #[.int .i64 t354, .slice Ao29 t355.length co29] 27 (0, 0)) (by (with_reducible repeat (first | refine Zg ?_ _ | refine Zh ?_ | refine Zf ?_ _)); exact BK359.out) hb); have n6_ := Aside0.mk (Zp (g := gb364) (o := .cells #[.int .i64 t360, .slice Ao36 t385.length co36] 27 (0, 0)) (by (with_reducible repeat (first | refine Zg ?_ _ | refine Zh ?_ | refine Zf ?_ _)); exact BK364.out) hb); have n7_ := Aside0.mk (Zp (g := gb373) (o := .cells #[.int .i64 t368, .slice Ao46 t390.length co46] 27 (0, 0)) (by (with_reducible repeat (first | refine Zg ?_ _ | refine Zh ?_ | refine Zf ?_ _)); exact BK373.out) hb); have n8_ := Aside0.mk (Zp (g := gb404) (o := .cells #[.int .i64 t399, .slice Ao143 t400.length co143] 27 (0, 0)) (by (with_reducible repeat (first | refine Zg ?_ _ | refine Zh ?_ | refine Zf ?_ _)); exact BK404.out) hb); have n9_ := Aside0.mk (Zu (by repeat (first | (with_reducible first | exact HB.out | apply Zj | apply Ze | apply Zi | refine Zd ?_ GE345.out | refine Zd ?_ GE359.out | refine Zd ?_ GE364.out | refine Zd ?_ GE373.out | refine Zd ?_ GE404.out) | exact HB.out)) hb); clear HO_360001; clear HO_365001; clear HO_374001; clear HO_405001; clear BK345; clear BK359; clear BK364; clear BK373; clear BK404; clear HB; have HO_360001 := n0_; have HO_365001 := n1_; have HO_374001 := n2_; have HO_405001 := n3_; have BK345 := n4_; have BK359 := n5_; have BK364 := n6_; have BK373 := n7_; have BK404 := n8_; have HB := n9_; clear n0_ n1_ n2_ n3_ n4_ n5_ n6_ n7_ n8_ n9_; (try clear hb); (try clear hb2); (try clear hk); (try clear hi)))
                  all_goals go_ret
                  all_goals exact ⟨by first | rfl | (simp [errW_none, errW_some] <;> rfl) | (simp [*, errW_none, errW_some] <;> rfl), by repeat (first | (with_reducible first | exact HB.out | apply Zj | apply Ze | apply Zi | refine Zd ?_ GE345.out | refine Zd ?_ GE359.out | refine Zd ?_ GE364.out | refine Zd ?_ GE373.out | refine Zd ?_ GE404.out) | exact HB.out)⟩
            ·rw [if_neg c117] at H
             have c117b0 : (t391 == t389) = false := beq_eq_false_iff_ne.mpr c117
             have c117b1 : (t391 != t389) = true := bne_iff_ne.mpr c117
             obtain rfl := Option.some.inj H
             have hnb188 := NB373_345.out
             have hnc188 := NB345_373.out
             have hnb189 := NB373_359.out
             have hnc189 := NB359_373.out
             have hnb190 := NB373_364.out
             have hnc190 := NB364_373.out
             have hcz191_0 : wc.cell? ⟨gb373, 0, none⟩ = some (.int .i64 t368) := (Zk BK373.out 0).trans rfl
             have hcz191_1 : wc.cell? ⟨gb373, 1, none⟩ = some (.slice Ao46 t369.length co46) := (Zk BK373.out 1).trans rfl
             have hfz191_0 := Zl BK373.out 0
             have hfz191_1 := Zl BK373.out 1
             go_wp2_with (first | ((with_reducible refine ZA (f := 53) rfl ?_); refine goesL_ (some 83) rfl rfl Try.func53 (by kernel_rfl) rfl #[.agg #[.int .i64 t368, .slice Ao46 t369.length co46], .int .i64 1] rfl (by (try simp only [List.map_toArray, List.map_cons, List.map_nil]); first | done | rfl | (simp only [List.length_drop, List.length_take]; rfl)) ?_; (with_reducible refine (laws_markGraph.calls kj73 t368 (fun W_ => SpOf (Kd.slice 3 (Kd.int .i64)) (fun k_ => (nsp_HO371 ≤ k_) ∧ k_ < nsp_HO378) W_ (fun k_ => (some k_ ≠ (.slice Ao29 t355.length co29 : Value).ownBlock ∧ some k_ ≠ (.slice Ao36 t385.length co36 : Value).ownBlock)) (.slice Ao46 t369.length co46)) (.slice Ao46 t369.length co46) t369 1 t389 t390 w _ ?side1 ?side2 A107.out).mono ?_); (case side1 => repeat (first | (with_reducible first | exact HB.out | apply Zj | apply Ze | apply Zi | refine Zd ?_ GE345.out | refine Zd ?_ GE359.out | refine Zd ?_ GE364.out | refine Zd ?_ GE373.out) | exact HB.out)); (case side2 => exact (S_ofSp (Zy (ok' := fun k_ => (some k_ ≠ (.slice Ao29 t355.length co29 : Value).ownBlock ∧ some k_ ≠ (.slice Ao36 t385.length co36 : Value).ownBlock)) (HO_374001.out) (fun k_ hk_ => by have h_ := hk_; (try simp only [true_and, and_assoc] at h_); (try simp only [true_and, and_assoc]); exact h_)))); rintro e w192 ⟨rfl, hy0, hb, hkp⟩; refine ⟨_, rfl, ?_⟩; have n0_ := Aside0.mk (S_besideSp (Zy (ok' := fun k_ => (some k_ ≠ (.slice Ao36 t385.length co36 : Value).ownBlock ∧ some k_ ≠ (.slice Ao46 t369.length co46 : Value).ownBlock)) (HO_360001.out) (fun k_ hk_ => by have h_ := hk_; (try simp only [true_and, and_assoc] at h_); (try simp only [true_and, and_assoc]); exact h_)) hkp (fun k_ ha_ hb_ => by (try dsimp only at ha_ hb_); omega) (by first | decide | exact spE_ (by decide))); have n1_ := Aside0.mk (S_besideSp (Zy (ok' := fun k_ => (some k_ ≠ (.slice Ao29 t355.length co29 : Value).ownBlock ∧ some k_ ≠ (.slice Ao46 t369.length co46 : Value).ownBlock)) (HO_365001.out) (fun k_ hk_ => by have h_ := hk_; (try simp only [true_and, and_assoc] at h_); (try simp only [true_and, and_assoc]); exact h_)) hkp (fun k_ ha_ hb_ => by (try dsimp only at ha_ hb_); omega) (by first | decide | exact spE_ (by decide))); have n2_ := Aside0.mk (S_toSp hy0); have n3_ := Aside0.mk (box_keptSp (g := gb345) (cs := #[.int .i64 a0_0, .slice A0_1 l0_1.length c0_1]) (t := 24) (by (with_reducible repeat (first | refine Zg ?_ _ | refine Zh ?_ | refine Zf ?_ _)); exact BK345.out) hkp (by first | decide | exact spE_ (by decide))); have n4_ := Aside0.mk (box_keptSp (g := gb359) (cs := #[.int .i64 t354, .slice Ao29 t355.length co29]) (t := 27) (by (with_reducible repeat (first | refine Zg ?_ _ | refine Zh ?_ | refine Zf ?_ _)); exact BK359.out) hkp (by first | decide | exact spE_ (by decide))); have n5_ := Aside0.mk (box_keptSp (g := gb364) (cs := #[.int .i64 t360, .slice Ao36 t385.length co36]) (t := 27) (by (with_reducible repeat (first | refine Zg ?_ _ | refine Zh ?_ | refine Zf ?_ _)); exact BK364.out) hkp (by first | decide | exact spE_ (by decide))); have n6_ := Aside0.mk (box_keptSp (g := gb373) (cs := #[.int .i64 t368, .slice Ao46 t369.length co46]) (t := 27) (by (with_reducible repeat (first | refine Zg ?_ _ | refine Zh ?_ | refine Zf ?_ _)); exact BK373.out) hkp (by first | decide | exact spE_ (by decide))); have n7_ := Aside0.mk (hb); clear HO_360001; clear HO_365001; clear HO_374001; clear BK345; clear BK359; clear BK364; clear BK373; clear HB; have HO_360001 := n0_; have HO_365001 := n1_; have HO_374001 := n2_; have BK345 := n3_; have BK359 := n4_; have BK364 := n5_; have BK373 := n6_; have HB := n7_; clear n0_ n1_ n2_ n3_ n4_ n5_ n6_ n7_; (try clear hb); (try clear hkp); (try clear hy0); have hcz193_0 : w192.cell? ⟨gb373, 0, none⟩ = some (.int .i64 t368) := (Zk BK373.out 0).trans rfl; have hcz193_1 : w192.cell? ⟨gb373, 1, none⟩ = some (.slice Ao46 t369.length co46) := (Zk BK373.out 1).trans rfl; have hfz193_0 := Zl BK373.out 0; have hfz193_1 := Zl BK373.out 1) | ((with_reducible refine ZA (f := 55) rfl ?_); refine goesL_ (some 86) rfl rfl Try.func55 (by kernel_rfl) rfl #[.agg #[.int .i64 t368, .slice Ao46 t390.length co46], .int .i64 1] rfl (by (try simp only [List.map_toArray, List.map_cons, List.map_nil]); first | done | (rw [show t390.length = t369.length from (ZF HO_374001.out).1.symm] <;> rfl) | rfl | (simp only [List.length_drop, List.length_take]; rfl)) ?_; (with_reducible refine (laws_heldGraph.calls kj73 t368 _ _ t390 1 t391 _ ?side1 ?side2 A108.out).mono ?_); (case side1 => repeat (first | exact (ZF HO_374001.out).2.2 | (with_reducible refine Zw ?_ _) | (with_reducible refine Zv ?_ _) | (with_reducible refine Zz ?_))); (case side2 => rw [show t390.length = t369.length from (ZF HO_374001.out).1.symm]; exact (ZF HO_374001.out).2.1); rintro e w194 ⟨rfl, hb⟩; refine ⟨_, rfl, ?_⟩; have n0_ := Aside0.mk (ZC (by (with_reducible repeat (first | apply Zn | apply Zm | apply Zo)); exact HO_360001.out) hb); have n1_ := Aside0.mk (ZC (by (with_reducible repeat (first | apply Zn | apply Zm | apply Zo)); exact HO_365001.out) hb); have n2_ := Aside0.mk (ZC (by (with_reducible repeat (first | apply Zn | apply Zm | apply Zo)); exact HO_374001.out) hb); have n3_ := Aside0.mk (Zp (g := gb345) (o := .cells #[.int .i64 a0_0, .slice A0_1 l0_1.length c0_1] 24 (0, 0)) (by (with_reducible repeat (first | refine Zg ?_ _ | refine Zh ?_ | refine Zf ?_ _)); exact BK345.out) hb); have n4_ := Aside0.mk (Zp (g := gb359) (o := .cells #[.int .i64 t354, .slice Ao29 t355.length co29] 27 (0, 0)) (by (with_reducible repeat (first | refine Zg ?_ _ | refine Zh ?_ | refine Zf ?_ _)); exact BK359.out) hb); have n5_ := Aside0.mk (Zp (g := gb364) (o := .cells #[.int .i64 t360, .slice Ao36 t385.length co36] 27 (0, 0)) (by (with_reducible repeat (first | refine Zg ?_ _ | refine Zh ?_ | refine Zf ?_ _)); exact BK364.out) hb); have n6_ := Aside0.mk (Zp (g := gb373) (o := .cells #[.int .i64 t368, .slice Ao46 t369.length co46] 27 (0, 0)) (by (with_reducible repeat (first | refine Zg ?_ _ | refine Zh ?_ | refine Zf ?_ _)); exact BK373.out) hb); have n7_ := Aside0.mk (Zu (by repeat (first | (with_reducible first | exact HB.out | apply Zj | apply Ze | apply Zi | refine Zd ?_ GE345.out | refine Zd ?_ GE359.out | refine Zd ?_ GE364.out | refine Zd ?_ GE373.out) | exact HB.out)) hb); clear HO_360001; clear HO_365001; clear HO_374001; clear BK345; clear BK359; clear BK364; clear BK373; clear HB; have HO_360001 := n0_; have HO_365001 := n1_; have HO_374001 := n2_; have BK345 := n3_; have BK359 := n4_; have BK364 := n5_; have BK373 := n6_; have HB := n7_; clear n0_ n1_ n2_ n3_ n4_ n5_ n6_ n7_; (try clear hb); (try clear hb2); (try clear hk); (try clear hi)))
             all_goals go_ret
             all_goals exact ⟨by first | rfl | (simp [errW_none, errW_some] <;> rfl) | (simp [*, errW_none, errW_some] <;> rfl), by repeat (first | (with_reducible first | exact HB.out | apply Zj | apply Ze | apply Zi | refine Zd ?_ GE345.out | refine Zd ?_ GE359.out | refine Zd ?_ GE364.out | refine Zd ?_ GE373.out) | exact HB.out)⟩
       ·replace c71 := Bool.eq_false_iff.mpr c71
        subst c71
        have H1 : (some false) = some r := by rw [if_neg (show ¬ (false = true) by decide)] at H; exact H
        clear H
        have H := H1
        clear H1
        obtain rfl := Option.some.inj H
        try go_wp2
        have n0_ := Aside0.mk (ZQ HO_9.out)
        have n1_ := Aside0.mk (Zo HO_360001.out)
        have n2_ := Aside0.mk (Zo HO_365001.out)
        have n3_ := Aside0.mk (Zo HO_374001.out)
        have n4_ := Aside0.mk (Zh BK345.out)
        have n5_ := Aside0.mk (Zh BK359.out)
        have n6_ := Aside0.mk (Zh BK364.out)
        have n7_ := Aside0.mk (Zh BK373.out)
        have n8_ := Aside0.mk (Zi HB.out)
        clear HO_9
        clear HO_360001
        clear HO_365001
        clear HO_374001
        clear BK345
        clear BK359
        clear BK364
        clear BK373
        clear HB
        have HO_9 := n0_
        have HO_360001 := n1_
        have HO_365001 := n2_
        have HO_374001 := n3_
        have BK345 := n4_
        have BK359 := n5_
        have BK364 := n6_
        have BK373 := n7_
        have HB := n8_
        clear n0_ n1_ n2_ n3_ n4_ n5_ n6_ n7_ n8_
        refine start_ (n := 5) (S := fun w' => w'.cell? ⟨gb364, 0, none⟩ = some (.int .i64 t360) ∧ w'.cell? ⟨gb364, 1, none⟩ = some (.slice Ao36 t361.length co36) ∧ w'.cell? ⟨gb345, 0, none⟩ = some (.int .i64 a0_0) ∧ w'.cell? ⟨gb345, 1, none⟩ = some (.slice A0_1 l0_1.length c0_1)) (ds := []) #[O,O,O,O,O] (by kernel_rfl) rfl rfl ⟨(Zk BK364.out 0).trans rfl, (Zk BK364.out 1).trans rfl, (Zk BK345.out 0).trans rfl, (Zk BK345.out 1).trans rfl⟩ (fun hHeld => ?_)
        generalize wc.drew = w195 at HO_9 HO_360001 HO_365001 HO_374001 BK345 BK359 BK364 BK373 HB hHeld ⊢
        refine take_ (i := 0) (N := some 52) (v := ?_) (a' := ?_) #[Y,O,O,O,O] rfl rfl (by kernel_rfl) (fun _ _ _ h => h) (Or.inl ⟨by rfl, ?_⟩) hHeld ?_ ?_
        rotate_left
        ·rintro w' ⟨s0, s1, s2, s3⟩
         go_simp
         with_reducible rfl
        rotate_left
        ·simp only [Act.put, Za, Zb, Zc, Zq, Zr]
         rfl
        refine take_ (i := 1) (N := some 53) (v := ?_) (a' := ?_) #[Y,Y,O,O,O] rfl rfl (by kernel_rfl) (fun _ _ _ h => h) (Or.inl ⟨by rfl, ?_⟩) hHeld ?_ ?_
        rotate_left
        ·rintro w' ⟨s0, s1, s2, s3⟩
         go_simp
         with_reducible rfl
        rotate_left
        ·simp only [Act.put, Za, Zb, Zc, Zq, Zr]
         rfl
        refine one_ (i := 2) (N := some 54) #[Y,Y,Y,O,O] rfl rfl (by kernel_rfl) (by first | decide | exact spE_ (by decide)) (fun K hK => ?_)
        refine goes_ Try.func11 (by kernel_rfl) rfl #[.agg #[.int .i64 a0_0, .slice A0_1 l0_1.length c0_1]] (by rfl) rfl rfl (by (try simp only [List.map_toArray, List.map_cons, List.map_nil]); first | done | rfl | (simp only [List.length_drop, List.length_take]; rfl)) ?_
        with_reducible refine (laws_toGraph.calls kj15 a0_0 _ _ l0_1 t375 t376 _ ?side1 ?side2 A66.out).mono ?_
        (case side1 => repeat (first | exact (ZG HR0_1.out HB.out) | (with_reducible refine Zw ?_ _) | (with_reducible refine Zv ?_ _) | (with_reducible refine Zz ?_)))
        (case side2 => exact HC0_1.out)
        rintro e w196 ⟨v377, rfl, ho0, hb⟩
        refine ⟨_, rfl, ?_⟩
        obtain ⟨nsp_HO378, hnsp_HO378, ho0⟩ := S_newSp ho0
        have n0_ := Aside0.mk (Kd.R_below (by (with_reducible repeat (first | apply ZO | apply ZN | apply ZQ)); exact HO_9.out) hb)
        have n1_ := Aside0.mk (ZK ((S_oldSp (by (with_reducible repeat (first | apply Zn | apply Zm | apply Zo)); exact HO_360001.out) hnsp_HO378)) (Kd.S_base ho0) hb)
        have n2_ := Aside0.mk (ZK ((S_oldSp (by (with_reducible repeat (first | apply Zn | apply Zm | apply Zo)); exact HO_365001.out) hnsp_HO378)) (Kd.S_base ho0) hb)
        have n3_ := Aside0.mk (ZK ((S_oldSp (by (with_reducible repeat (first | apply Zn | apply Zm | apply Zo)); exact HO_374001.out) hnsp_HO378)) (Kd.S_base ho0) hb)
        have n4_ := Aside0.mk (Kd.S_lower (Kd.S_new' (Kd.S_new' (Kd.S_new' (Kd.S_new' ho0 (Kd.R_lt (by (with_reducible repeat (first | apply ZO | apply ZN | apply ZQ)); exact HO_9.out))) (Kd.S_lt (by (with_reducible repeat (first | apply Zn | apply Zm | apply Zo)); exact HO_360001.out))) (Kd.S_lt (by (with_reducible repeat (first | apply Zn | apply Zm | apply Zo)); exact HO_365001.out))) (Kd.S_lt (by (with_reducible repeat (first | apply Zn | apply Zm | apply Zo)); exact HO_374001.out))) (Zs (by repeat (first | (with_reducible first | exact HB.out | apply Zj | apply Ze | apply Zi | refine Zd ?_ GE345.out | refine Zd ?_ GE359.out | refine Zd ?_ GE364.out | refine Zd ?_ GE373.out) | exact HB.out))))
        have n5_ := Aside0.mk (Zp (g := gb345) (o := .cells #[.int .i64 a0_0, .slice A0_1 l0_1.length c0_1] 24 (0, 0)) (by (with_reducible repeat (first | refine Zg ?_ _ | refine Zh ?_ | refine Zf ?_ _)); exact BK345.out) hb)
        have n6_ := Aside0.mk (Zp (g := gb359) (o := .cells #[.int .i64 t354, .slice Ao29 t355.length co29] 27 (0, 0)) (by (with_reducible repeat (first | refine Zg ?_ _ | refine Zh ?_ | refine Zf ?_ _)); exact BK359.out) hb)
        have n7_ := Aside0.mk (Zp (g := gb364) (o := .cells #[.int .i64 t360, .slice Ao36 t361.length co36] 27 (0, 0)) (by (with_reducible repeat (first | refine Zg ?_ _ | refine Zh ?_ | refine Zf ?_ _)); exact BK364.out) hb)
        have n8_ := Aside0.mk (Zp (g := gb373) (o := .cells #[.int .i64 t368, .slice Ao46 t369.length co46] 27 (0, 0)) (by (with_reducible repeat (first | refine Zg ?_ _ | refine Zh ?_ | refine Zf ?_ _)); exact BK373.out) hb)
        have n9_ := Aside0.mk (Zu (by repeat (first | (with_reducible first | exact HB.out | apply Zj | apply Ze | apply Zi | refine Zd ?_ GE345.out | refine Zd ?_ GE359.out | refine Zd ?_ GE364.out | refine Zd ?_ GE373.out) | exact HB.out)) hb)
        clear HO_9
        clear HO_360001
        clear HO_365001
        clear HO_374001
        clear BK345
        clear BK359
        clear BK364
        clear BK373
        clear HB
        have HO_9 := n0_
        have HO_360001 := n1_
        have HO_365001 := n2_
        have HO_374001 := n3_
        have HO378 := n4_
        have BK345 := n5_
        have BK359 := n6_
        have BK364 := n7_
        have BK373 := n8_
        have HB := n9_
        clear n0_ n1_ n2_ n3_ n4_ n5_ n6_ n7_ n8_ n9_
        (try clear hb)
        (try clear hb2)
        (try clear hk)
        (try clear hi)
        (try clear ho0)
        obtain ⟨Ao197, co197, eo197⟩ := Kd.S_slice HO378.out
        (first | subst eo197 | (injection eo197 with f1_ f2_ f3_; have f4_ := f1_.symm; have f5_ := f3_.symm; clear f1_ f2_ f3_; subst f4_; subst f5_))
        refine hK.out _ _ ⟨(Zk BK364.out 0).trans rfl, (Zk BK364.out 1).trans rfl, (Zk BK345.out 0).trans rfl, (Zk BK345.out 1).trans rfl⟩ (fun hHeld => ?_)
        clear hK K
        refine norm_ (a' := ?_) ?_ ?_
        rotate_left
        ·show Act.put _ (some 54) _ = _
         simp only [Act.put, Za, Zb, Zc, Zq, Zr]
         rfl
        refine one_ (i := 3) (N := some 55) #[Y,Y,Y,Y,O] rfl rfl (by kernel_rfl) (by first | decide | exact spE_ (by decide)) (fun K hK => ?_)
        refine goes_ Try.func13 (by kernel_rfl) rfl #[.agg #[.int .i64 t360, .slice Ao36 t361.length co36], .agg #[.int .i64 t375, .slice Ao197 t376.length co197]] (by rfl) rfl rfl (by (try simp only [List.map_toArray, List.map_cons, List.map_nil]); first | done | rfl | (simp only [List.length_drop, List.length_take]; rfl)) ?_
        with_reducible refine (laws_eqGraph.calls kj15 t360 _ _ t361 t375 _ _ t376 true _ ?side1 ?side2 ?side3 ?side4 A67.out).mono ?_
        (case side1 => repeat (first | exact (ZF HO_365001.out).2.2 | (with_reducible refine Zw ?_ _) | (with_reducible refine Zv ?_ _) | (with_reducible refine Zz ?_)))
        (case side2 => exact (ZF HO_365001.out).2.1)
        (case side3 => repeat (first | exact (ZF HO378.out).2.2 | (with_reducible refine Zw ?_ _) | (with_reducible refine Zv ?_ _) | (with_reducible refine Zz ?_)))
        (case side4 => exact (ZF HO378.out).2.1)
        rintro e w198 ⟨rfl, hb⟩
        refine ⟨_, rfl, ?_⟩
        have n0_ := Aside0.mk (Kd.R_below (by (with_reducible repeat (first | apply ZO | apply ZN | apply ZQ)); exact HO_9.out) hb)
        have n1_ := Aside0.mk (ZC (by (with_reducible repeat (first | apply Zn | apply Zm | apply Zo)); exact HO_360001.out) hb)
        have n2_ := Aside0.mk (ZC (by (with_reducible repeat (first | apply Zn | apply Zm | apply Zo)); exact HO_365001.out) hb)
        have n3_ := Aside0.mk (ZC (by (with_reducible repeat (first | apply Zn | apply Zm | apply Zo)); exact HO_374001.out) hb)
        have n4_ := Aside0.mk (ZC (by (with_reducible repeat (first | apply Zn | apply Zm | apply Zo)); exact HO378.out) hb)
        have n5_ := Aside0.mk (Zp (g := gb345) (o := .cells #[.int .i64 a0_0, .slice A0_1 l0_1.length c0_1] 24 (0, 0)) (by (with_reducible repeat (first | refine Zg ?_ _ | refine Zh ?_ | refine Zf ?_ _)); exact BK345.out) hb)
        have n6_ := Aside0.mk (Zp (g := gb359) (o := .cells #[.int .i64 t354, .slice Ao29 t355.length co29] 27 (0, 0)) (by (with_reducible repeat (first | refine Zg ?_ _ | refine Zh ?_ | refine Zf ?_ _)); exact BK359.out) hb)
        have n7_ := Aside0.mk (Zp (g := gb364) (o := .cells #[.int .i64 t360, .slice Ao36 t361.length co36] 27 (0, 0)) (by (with_reducible repeat (first | refine Zg ?_ _ | refine Zh ?_ | refine Zf ?_ _)); exact BK364.out) hb)
        have n8_ := Aside0.mk (Zp (g := gb373) (o := .cells #[.int .i64 t368, .slice Ao46 t369.length co46] 27 (0, 0)) (by (with_reducible repeat (first | refine Zg ?_ _ | refine Zh ?_ | refine Zf ?_ _)); exact BK373.out) hb)
        have n9_ := Aside0.mk (Zu (by repeat (first | (with_reducible first | exact HB.out | apply Zj | apply Ze | apply Zi | refine Zd ?_ GE345.out | refine Zd ?_ GE359.out | refine Zd ?_ GE364.out | refine Zd ?_ GE373.out) | exact HB.out)) hb)
        clear HO_9
        clear HO_360001
        clear HO_365001
        clear HO_374001
        clear HO378
        clear BK345
        clear BK359
        clear BK364
        clear BK373
        clear HB
        have HO_9 := n0_
        have HO_360001 := n1_
        have HO_365001 := n2_
        have HO_374001 := n3_
        have HO378 := n4_
        have BK345 := n5_
        have BK359 := n6_
        have BK364 := n7_
        have BK373 := n8_
        have HB := n9_
        clear n0_ n1_ n2_ n3_ n4_ n5_ n6_ n7_ n8_ n9_
        (try clear hb)
        (try clear hb2)
        (try clear hk)
        (try clear hi)
        refine hK.out _ _ ⟨(Zk BK364.out 0).trans rfl, (Zk BK364.out 1).trans rfl, (Zk BK345.out 0).trans rfl, (Zk BK345.out 1).trans rfl⟩ (fun hHeld => ?_)
        clear hK K
        refine norm_ (a' := ?_) ?_ ?_
        rotate_left
        ·show Act.put _ (some 55) _ = _
         simp only [Act.put, Za, Zb, Zc, Zq, Zr]
         rfl
        refine Zx (i := 4) (N := some 56) (v := ?_) (a' := ?_) #[Y,Y,Y,Y,Y] rfl rfl (by kernel_rfl) (fun _ _ _ h => h) (Or.inl ⟨by rfl, ?_⟩) ?_ ?_
        rotate_left
        ·intro w'
         go_simp
         with_reducible rfl
        rotate_left
        ·simp only [Act.put, Za, Zb, Zc, Zq, Zr]
         rfl
        refine done_ (by kernel_rfl) ?_
        try go_wp2_with (first | ((with_reducible refine ZA (f := 15) rfl ?_); refine goesL_ (some 59) rfl rfl Try.func15 (by kernel_rfl) rfl #[.slice A1 l1.length c1] rfl (by (try simp only [List.map_toArray, List.map_cons, List.map_nil]); first | done | rfl | (simp only [List.length_drop, List.length_take]; rfl)) ?_; (with_reducible refine (laws_toIntS.calls kj15 _ _ l1 t380 _ ?side1 ?side2 A69.out).mono ?_); (case side1 => repeat (first | exact (ZG HR1.out HB.out) | (with_reducible refine Zw ?_ _) | (with_reducible refine Zv ?_ _) | (with_reducible refine Zz ?_))); (case side2 => exact HC1.out); rintro e w199 ⟨v381, rfl, ho0, hb⟩; refine ⟨_, rfl, ?_⟩; have n0_ := Aside0.mk (Kd.R_elder' (by (with_reducible repeat (first | apply ZO | apply ZN | apply ZQ)); exact HO_9.out) (Kd.R_base ho0) hb); have n1_ := Aside0.mk (ZK (by (with_reducible repeat (first | apply Zn | apply Zm | apply Zo)); exact HO_360001.out) (Kd.R_base ho0) hb); have n2_ := Aside0.mk (ZK (by (with_reducible repeat (first | apply Zn | apply Zm | apply Zo)); exact HO_365001.out) (Kd.R_base ho0) hb); have n3_ := Aside0.mk (ZK (by (with_reducible repeat (first | apply Zn | apply Zm | apply Zo)); exact HO_374001.out) (Kd.R_base ho0) hb); have n4_ := Aside0.mk (ZK (by (with_reducible repeat (first | apply Zn | apply Zm | apply Zo)); exact HO378.out) (Kd.R_base ho0) hb); have n5_ := Aside0.mk (Kd.R_lower (Kd.R_new' ho0 (Kd.R_lt (by (with_reducible repeat (first | apply ZO | apply ZN | apply ZQ)); exact HO_9.out))) (Zs (by repeat (first | (with_reducible first | exact HB.out | apply Zj | apply Ze | apply Zi | refine Zd ?_ GE345.out | refine Zd ?_ GE359.out | refine Zd ?_ GE364.out | refine Zd ?_ GE373.out) | exact HB.out)))); have n6_ := Aside0.mk (Zp (g := gb345) (o := .cells #[.int .i64 a0_0, .slice A0_1 l0_1.length c0_1] 24 (0, 0)) (by (with_reducible repeat (first | refine Zg ?_ _ | refine Zh ?_ | refine Zf ?_ _)); exact BK345.out) hb); have n7_ := Aside0.mk (Zp (g := gb359) (o := .cells #[.int .i64 t354, .slice Ao29 t355.length co29] 27 (0, 0)) (by (with_reducible repeat (first | refine Zg ?_ _ | refine Zh ?_ | refine Zf ?_ _)); exact BK359.out) hb); have n8_ := Aside0.mk (Zp (g := gb364) (o := .cells #[.int .i64 t360, .slice Ao36 t361.length co36] 27 (0, 0)) (by (with_reducible repeat (first | refine Zg ?_ _ | refine Zh ?_ | refine Zf ?_ _)); exact BK364.out) hb); have n9_ := Aside0.mk (Zp (g := gb373) (o := .cells #[.int .i64 t368, .slice Ao46 t369.length co46] 27 (0, 0)) (by (with_reducible repeat (first | refine Zg ?_ _ | refine Zh ?_ | refine Zf ?_ _)); exact BK373.out) hb); have n10_ := Aside0.mk (Zu (by repeat (first | (with_reducible first | exact HB.out | apply Zj | apply Ze | apply Zi | refine Zd ?_ GE345.out | refine Zd ?_ GE359.out | refine Zd ?_ GE364.out | refine Zd ?_ GE373.out) | exact HB.out)) hb); clear HO_9; clear HO_360001; clear HO_365001; clear HO_374001; clear HO378; clear BK345; clear BK359; clear BK364; clear BK373; clear HB; have HO_9 := n0_; have HO_360001 := n1_; have HO_365001 := n2_; have HO_374001 := n3_; have HO378 := n4_; have HO382 := n5_; have BK345 := n6_; have BK359 := n7_; have BK364 := n8_; have BK373 := n9_; have HB := n10_; clear n0_ n1_ n2_ n3_ n4_ n5_ n6_ n7_ n8_ n9_ n10_; (try clear hb); (try clear hb2); (try clear hk); (try clear hi); (try clear ho0); obtain ⟨Ao200, co200, eo200⟩ := Kd.R_slice HO382.out; subst eo200) | ((with_reducible refine ZA (f := 17) rfl ?_); refine goesL_ (some 60) rfl rfl Try.func17 (by kernel_rfl) rfl #[.slice Ao39 t365.length co39, .slice Ao200 t380.length co200] rfl (by (try simp only [List.map_toArray, List.map_cons, List.map_nil]); first | done | rfl | (simp only [List.length_drop, List.length_take]; rfl)) ?_; (with_reducible refine (laws_eqIntS.calls kj15 _ _ t365 _ _ t380 false _ ?side1 ?side2 ?side3 ?side4 A70.out).mono ?_); (case side1 => repeat (first | exact (Kd.R_reads' HO_9.out).2.2 | (with_reducible refine Zw ?_ _) | (with_reducible refine Zv ?_ _) | (with_reducible refine Zz ?_))); (case side2 => exact (Kd.R_reads' HO_9.out).2.1); (case side3 => repeat (first | exact (Kd.R_reads' HO382.out).2.2 | (with_reducible refine Zw ?_ _) | (with_reducible refine Zv ?_ _) | (with_reducible refine Zz ?_))); (case side4 => exact (Kd.R_reads' HO382.out).2.1); rintro e w' ⟨rfl, ⟨nd, rfl⟩⟩; refine ⟨_, rfl, ?_⟩))
        all_goals go_ret
        all_goals exact ⟨by first | rfl | (simp [errW_none, errW_some] <;> rfl) | (simp [*, errW_none, errW_some] <;> rfl), by repeat (first | (with_reducible first | exact HB.out | apply Zj | apply Ze | apply Zi | refine Zd ?_ GE345.out | refine Zd ?_ GE359.out | refine Zd ?_ GE364.out | refine Zd ?_ GE373.out) | exact HB.out)⟩
      ·replace c68 := Bool.eq_false_iff.mpr c68
       subst c68
       have H1 : (some false) = some r := by rw [if_neg (show ¬ (false = true) by decide)] at H; exact H
       clear H
       have H := H1
       clear H1
       obtain rfl := Option.some.inj H
       try go_wp2
       have n0_ := Aside0.mk (ZQ HO_9.out)
       have n1_ := Aside0.mk (Zo HO_360001.out)
       have n2_ := Aside0.mk (Zo HO_365001.out)
       have n3_ := Aside0.mk (Zo HO_374001.out)
       have n4_ := Aside0.mk (Zh BK345.out)
       have n5_ := Aside0.mk (Zh BK359.out)
       have n6_ := Aside0.mk (Zh BK364.out)
       have n7_ := Aside0.mk (Zh BK373.out)
       have n8_ := Aside0.mk (Zi HB.out)
       clear HO_9
       clear HO_360001
       clear HO_365001
       clear HO_374001
       clear BK345
       clear BK359
       clear BK364
       clear BK373
       clear HB
       have HO_9 := n0_
       have HO_360001 := n1_
       have HO_365001 := n2_
       have HO_374001 := n3_
       have BK345 := n4_
       have BK359 := n5_
       have BK364 := n6_
       have BK373 := n7_
       have HB := n8_
       clear n0_ n1_ n2_ n3_ n4_ n5_ n6_ n7_ n8_
       refine start_ (n := 5) (S := fun w' => w'.cell? ⟨gb364, 0, none⟩ = some (.int .i64 t360) ∧ w'.cell? ⟨gb364, 1, none⟩ = some (.slice Ao36 t361.length co36) ∧ w'.cell? ⟨gb345, 0, none⟩ = some (.int .i64 a0_0) ∧ w'.cell? ⟨gb345, 1, none⟩ = some (.slice A0_1 l0_1.length c0_1)) (ds := []) #[O,O,O,O,O] (by kernel_rfl) rfl rfl ⟨(Zk BK364.out 0).trans rfl, (Zk BK364.out 1).trans rfl, (Zk BK345.out 0).trans rfl, (Zk BK345.out 1).trans rfl⟩ (fun hHeld => ?_)
       generalize wc.drew = w201 at HO_9 HO_360001 HO_365001 HO_374001 BK345 BK359 BK364 BK373 HB hHeld ⊢
       refine take_ (i := 0) (N := some 52) (v := ?_) (a' := ?_) #[Y,O,O,O,O] rfl rfl (by kernel_rfl) (fun _ _ _ h => h) (Or.inl ⟨by rfl, ?_⟩) hHeld ?_ ?_
       rotate_left
       ·rintro w' ⟨s0, s1, s2, s3⟩
        go_simp
        with_reducible rfl
       rotate_left
       ·simp only [Act.put, Za, Zb, Zc, Zq, Zr]
        rfl
       refine take_ (i := 1) (N := some 53) (v := ?_) (a' := ?_) #[Y,Y,O,O,O] rfl rfl (by kernel_rfl) (fun _ _ _ h => h) (Or.inl ⟨by rfl, ?_⟩) hHeld ?_ ?_
       rotate_left
       ·rintro w' ⟨s0, s1, s2, s3⟩
        go_simp
        with_reducible rfl
       rotate_left
       ·simp only [Act.put, Za, Zb, Zc, Zq, Zr]
        rfl
       refine one_ (i := 2) (N := some 54) #[Y,Y,Y,O,O] rfl rfl (by kernel_rfl) (by first | decide | exact spE_ (by decide)) (fun K hK => ?_)
       refine goes_ Try.func11 (by kernel_rfl) rfl #[.agg #[.int .i64 a0_0, .slice A0_1 l0_1.length c0_1]] (by rfl) rfl rfl (by (try simp only [List.map_toArray, List.map_cons, List.map_nil]); first | done | rfl | (simp only [List.length_drop, List.length_take]; rfl)) ?_
       with_reducible refine (laws_toGraph.calls kj15 a0_0 _ _ l0_1 t375 t376 _ ?side1 ?side2 A66.out).mono ?_
       (case side1 => repeat (first | exact (ZG HR0_1.out HB.out) | (with_reducible refine Zw ?_ _) | (with_reducible refine Zv ?_ _) | (with_reducible refine Zz ?_)))
       (case side2 => exact HC0_1.out)
       rintro e w202 ⟨v377, rfl, ho0, hb⟩
       refine ⟨_, rfl, ?_⟩
       obtain ⟨nsp_HO378, hnsp_HO378, ho0⟩ := S_newSp ho0
       have n0_ := Aside0.mk (Kd.R_below (by (with_reducible repeat (first | apply ZO | apply ZN | apply ZQ)); exact HO_9.out) hb)
       have n1_ := Aside0.mk (ZK ((S_oldSp (by (with_reducible repeat (first | apply Zn | apply Zm | apply Zo)); exact HO_360001.out) hnsp_HO378)) (Kd.S_base ho0) hb)
       have n2_ := Aside0.mk (ZK ((S_oldSp (by (with_reducible repeat (first | apply Zn | apply Zm | apply Zo)); exact HO_365001.out) hnsp_HO378)) (Kd.S_base ho0) hb)
       have n3_ := Aside0.mk (ZK ((S_oldSp (by (with_reducible repeat (first | apply Zn | apply Zm | apply Zo)); exact HO_374001.out) hnsp_HO378)) (Kd.S_base ho0) hb)
       have n4_ := Aside0.mk (Kd.S_lower (Kd.S_new' (Kd.S_new' (Kd.S_new' (Kd.S_new' ho0 (Kd.R_lt (by (with_reducible repeat (first | apply ZO | apply ZN | apply ZQ)); exact HO_9.out))) (Kd.S_lt (by (with_reducible repeat (first | apply Zn | apply Zm | apply Zo)); exact HO_360001.out))) (Kd.S_lt (by (with_reducible repeat (first | apply Zn | apply Zm | apply Zo)); exact HO_365001.out))) (Kd.S_lt (by (with_reducible repeat (first | apply Zn | apply Zm | apply Zo)); exact HO_374001.out))) (Zs (by repeat (first | (with_reducible first | exact HB.out | apply Zj | apply Ze | apply Zi | refine Zd ?_ GE345.out | refine Zd ?_ GE359.out | refine Zd ?_ GE364.out | refine Zd ?_ GE373.out) | exact HB.out))))
       have n5_ := Aside0.mk (Zp (g := gb345) (o := .cells #[.int .i64 a0_0, .slice A0_1 l0_1.length c0_1] 24 (0, 0)) (by (with_reducible repeat (first | refine Zg ?_ _ | refine Zh ?_ | refine Zf ?_ _)); exact BK345.out) hb)
       have n6_ := Aside0.mk (Zp (g := gb359) (o := .cells #[.int .i64 t354, .slice Ao29 t355.length co29] 27 (0, 0)) (by (with_reducible repeat (first | refine Zg ?_ _ | refine Zh ?_ | refine Zf ?_ _)); exact BK359.out) hb)
       have n7_ := Aside0.mk (Zp (g := gb364) (o := .cells #[.int .i64 t360, .slice Ao36 t361.length co36] 27 (0, 0)) (by (with_reducible repeat (first | refine Zg ?_ _ | refine Zh ?_ | refine Zf ?_ _)); exact BK364.out) hb)
       have n8_ := Aside0.mk (Zp (g := gb373) (o := .cells #[.int .i64 t368, .slice Ao46 t369.length co46] 27 (0, 0)) (by (with_reducible repeat (first | refine Zg ?_ _ | refine Zh ?_ | refine Zf ?_ _)); exact BK373.out) hb)
       have n9_ := Aside0.mk (Zu (by repeat (first | (with_reducible first | exact HB.out | apply Zj | apply Ze | apply Zi | refine Zd ?_ GE345.out | refine Zd ?_ GE359.out | refine Zd ?_ GE364.out | refine Zd ?_ GE373.out) | exact HB.out)) hb)
       clear HO_9
       clear HO_360001
       clear HO_365001
       clear HO_374001
       clear BK345
       clear BK359
       clear BK364
       clear BK373
       clear HB
       have HO_9 := n0_
       have HO_360001 := n1_
       have HO_365001 := n2_
       have HO_374001 := n3_
       have HO378 := n4_
       have BK345 := n5_
       have BK359 := n6_
       have BK364 := n7_
       have BK373 := n8_
       have HB := n9_
       clear n0_ n1_ n2_ n3_ n4_ n5_ n6_ n7_ n8_ n9_
       (try clear hb)
       (try clear hb2)
       (try clear hk)
       (try clear hi)
       (try clear ho0)
       obtain ⟨Ao203, co203, eo203⟩ := Kd.S_slice HO378.out
       (first | subst eo203 | (injection eo203 with f1_ f2_ f3_; have f4_ := f1_.symm; have f5_ := f3_.symm; clear f1_ f2_ f3_; subst f4_; subst f5_))
       refine hK.out _ _ ⟨(Zk BK364.out 0).trans rfl, (Zk BK364.out 1).trans rfl, (Zk BK345.out 0).trans rfl, (Zk BK345.out 1).trans rfl⟩ (fun hHeld => ?_)
       clear hK K
       refine norm_ (a' := ?_) ?_ ?_
       rotate_left
       ·show Act.put _ (some 54) _ = _
        simp only [Act.put, Za, Zb, Zc, Zq, Zr]
        rfl
       refine one_ (i := 3) (N := some 55) #[Y,Y,Y,Y,O] rfl rfl (by kernel_rfl) (by first | decide | exact spE_ (by decide)) (fun K hK => ?_)
       refine goes_ Try.func13 (by kernel_rfl) rfl #[.agg #[.int .i64 t360, .slice Ao36 t361.length co36], .agg #[.int .i64 t375, .slice Ao203 t376.length co203]] (by rfl) rfl rfl (by (try simp only [List.map_toArray, List.map_cons, List.map_nil]); first | done | rfl | (simp only [List.length_drop, List.length_take]; rfl)) ?_
       with_reducible refine (laws_eqGraph.calls kj15 t360 _ _ t361 t375 _ _ t376 false _ ?side1 ?side2 ?side3 ?side4 A67.out).mono ?_
       (case side1 => repeat (first | exact (ZF HO_365001.out).2.2 | (with_reducible refine Zw ?_ _) | (with_reducible refine Zv ?_ _) | (with_reducible refine Zz ?_)))
       (case side2 => exact (ZF HO_365001.out).2.1)
       (case side3 => repeat (first | exact (ZF HO378.out).2.2 | (with_reducible refine Zw ?_ _) | (with_reducible refine Zv ?_ _) | (with_reducible refine Zz ?_)))
       (case side4 => exact (ZF HO378.out).2.1)
       rintro e w204 ⟨rfl, hb⟩
       refine ⟨_, rfl, ?_⟩
       have n0_ := Aside0.mk (Kd.R_below (by (with_reducible repeat (first | apply ZO | apply ZN | apply ZQ)); exact HO_9.out) hb)
       have n1_ := Aside0.mk (ZC (by (with_reducible repeat (first | apply Zn | apply Zm | apply Zo)); exact HO_360001.out) hb)
       have n2_ := Aside0.mk (ZC (by (with_reducible repeat (first | apply Zn | apply Zm | apply Zo)); exact HO_365001.out) hb)
       have n3_ := Aside0.mk (ZC (by (with_reducible repeat (first | apply Zn | apply Zm | apply Zo)); exact HO_374001.out) hb)
       have n4_ := Aside0.mk (ZC (by (with_reducible repeat (first | apply Zn | apply Zm | apply Zo)); exact HO378.out) hb)
       have n5_ := Aside0.mk (Zp (g := gb345) (o := .cells #[.int .i64 a0_0, .slice A0_1 l0_1.length c0_1] 24 (0, 0)) (by (with_reducible repeat (first | refine Zg ?_ _ | refine Zh ?_ | refine Zf ?_ _)); exact BK345.out) hb)
       have n6_ := Aside0.mk (Zp (g := gb359) (o := .cells #[.int .i64 t354, .slice Ao29 t355.length co29] 27 (0, 0)) (by (with_reducible repeat (first | refine Zg ?_ _ | refine Zh ?_ | refine Zf ?_ _)); exact BK359.out) hb)
       have n7_ := Aside0.mk (Zp (g := gb364) (o := .cells #[.int .i64 t360, .slice Ao36 t361.length co36] 27 (0, 0)) (by (with_reducible repeat (first | refine Zg ?_ _ | refine Zh ?_ | refine Zf ?_ _)); exact BK364.out) hb)
       have n8_ := Aside0.mk (Zp (g := gb373) (o := .cells #[.int .i64 t368, .slice Ao46 t369.length co46] 27 (0, 0)) (by (with_reducible repeat (first | refine Zg ?_ _ | refine Zh ?_ | refine Zf ?_ _)); exact BK373.out) hb)
       have n9_ := Aside0.mk (Zu (by repeat (first | (with_reducible first | exact HB.out | apply Zj | apply Ze | apply Zi | refine Zd ?_ GE345.out | refine Zd ?_ GE359.out | refine Zd ?_ GE364.out | refine Zd ?_ GE373.out) | exact HB.out)) hb)
       clear HO_9
       clear HO_360001
       clear HO_365001
       clear HO_374001
       clear HO378
       clear BK345
       clear BK359
       clear BK364
       clear BK373
       clear HB
       have HO_9 := n0_
       have HO_360001 := n1_
       have HO_365001 := n2_
       have HO_374001 := n3_
       have HO378 := n4_
       have BK345 := n5_
       have BK359 := n6_
       have BK364 := n7_
       have BK373 := n8_
       have HB := n9_
       clear n0_ n1_ n2_ n3_ n4_ n5_ n6_ n7_ n8_ n9_
       (try clear hb)
       (try clear hb2)
       (try clear hk)
       (try clear hi)
       refine hK.out _ _ ⟨(Zk BK364.out 0).trans rfl, (Zk BK364.out 1).trans rfl, (Zk BK345.out 0).trans rfl, (Zk BK345.out 1).trans rfl⟩ (fun hHeld => ?_)
       clear hK K
       refine norm_ (a' := ?_) ?_ ?_
       rotate_left
       ·show Act.put _ (some 55) _ = _
        simp only [Act.put, Za, Zb, Zc, Zq, Zr]
        rfl
       refine Zx (i := 4) (N := some 56) (v := ?_) (a' := ?_) #[Y,Y,Y,Y,Y] rfl rfl (by kernel_rfl) (fun _ _ _ h => h) (Or.inl ⟨by rfl, ?_⟩) ?_ ?_
       rotate_left
       ·intro w'
        go_simp
        with_reducible rfl
       rotate_left
       ·simp only [Act.put, Za, Zb, Zc, Zq, Zr]
        rfl
       refine done_ (by kernel_rfl) ?_
       try go_wp2
       all_goals go_ret
       all_goals exact ⟨by first | rfl | (simp [errW_none, errW_some] <;> rfl) | (simp [*, errW_none, errW_some] <;> rfl), by repeat (first | (with_reducible first | exact HB.out | apply Zj | apply Ze | apply Zi | refine Zd ?_ GE345.out | refine Zd ?_ GE359.out | refine Zd ?_ GE364.out | refine Zd ?_ GE373.out) | exact HB.out)⟩

end Go.Proofs.Ytdlobolnajcfnaa.PFnExactRenamed
