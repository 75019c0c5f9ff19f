-- Written by a program of this session (hooks of mine on the print): Lean checks it.
import Derived.Test.YtjidlgimnigllaaPFnBurdensx0
import Derived.Test.YtjidlgimnigllaaPFnBurdensx6
import Derived.Test.YtjidlgimnigllaaPFnBurdensx7
namespace Go.Proofs.Ytjidlgimnigllaa.PFnBurdens
open Go.RowKit Go.Proofs.YtjidlgimnigllaaW.PrintWords Go.Proofs.YtjidlgimnigllaaW.PrintLast Go.Proofs.YtjidlgimnigllaaW.PrintMore
attribute [local go_sem] max2_int min2_int max_two min_two max_three min_three max_four min_four   -- for this text's walks alone
set_option linter.unusedVariables false
set_option linter.unusedSimpArgs false

/-! ### spec_Reply: function 16 -/
mutual
def spec_Reply.l0 : Nat → List (S48) → Int → Int → Int → List (S48) → Int → Option ((List (S48)) × Bool)
 | 0, _, _, _, _, _, _ => none
 | k + 1, x0, x1, x2, x3, x10, x11 => if x11 < (x0.length : Int) then ((spec_ArePoints.f k x0).bind fun t184 => (if t184 = true then ((spec_l1In.f x2 1 2).bind fun t185 => (spec_Reply.j1 k x0 x1 x2 x3 x10 x11 t185)) else (spec_Reply.j1 k x0 x1 x2 x3 x10 x11 false))) else (spec_Reply.j1 k x0 x1 x2 x3 x10 x11 false)
def spec_Reply.j1 : Nat → List (S48) → Int → Int → Int → List (S48) → Int → Bool → Option ((List (S48)) × Bool)
 | 0, _, _, _, _, _, _, _ => none
 | k + 1, x0, x1, x2, x3, x10, x11, x29 => if x29 = true then (if 0 ≤ x11 then (if x11 < (x0.length : Int) then (if ((rd_T48 x0 x11).f2) = 0 then (if x2 = ((rd_T48 x0 x11).f1) then (if ((rd_T48 x0 x11).f2) = 2 then ((spec_l1In.f x3 3 4).bind fun t188 => (if ((rd_T48 x0 x11).f0) = x1 then (if t188 = true then (if x11 < (x10.length : Int) then (some ((x10.set (x11 : Int).toNat (⟨(rd_T48 x10 x11).f0, (rd_T48 x10 x11).f1, x3⟩ : S48)), true)) else (none)) else (spec_Reply.l0 k x0 x1 x2 x3 x10 (wrap64 (x11 + 1)))) else (spec_Reply.l0 k x0 x1 x2 x3 x10 (wrap64 (x11 + 1))))) else (if ((rd_T48 x0 x11).f0) = x1 then (spec_Reply.l0 k x0 x1 x2 x3 x10 (wrap64 (x11 + 1))) else (spec_Reply.l0 k x0 x1 x2 x3 x10 (wrap64 (x11 + 1))))) else ((spec_l1In.f x3 1 2).bind fun t190 => (if ((rd_T48 x0 x11).f2) = 2 then (if ((rd_T48 x0 x11).f0) = x1 then (if t190 = true then (if x11 < (x10.length : Int) then (some ((x10.set (x11 : Int).toNat (⟨(rd_T48 x10 x11).f0, (rd_T48 x10 x11).f1, x3⟩ : S48)), true)) else (none)) else (spec_Reply.l0 k x0 x1 x2 x3 x10 (wrap64 (x11 + 1)))) else (spec_Reply.l0 k x0 x1 x2 x3 x10 (wrap64 (x11 + 1)))) else (if ((rd_T48 x0 x11).f0) = x1 then (if t190 = true then (if x11 < (x10.length : Int) then (some ((x10.set (x11 : Int).toNat (⟨(rd_T48 x10 x11).f0, (rd_T48 x10 x11).f1, x3⟩ : S48)), true)) else (none)) else (spec_Reply.l0 k x0 x1 x2 x3 x10 (wrap64 (x11 + 1)))) else (spec_Reply.l0 k x0 x1 x2 x3 x10 (wrap64 (x11 + 1))))))) else (if ((rd_T48 x0 x11).f2) = 2 then (if x2 = ((rd_T48 x0 x11).f1) then ((spec_l1In.f x3 3 4).bind fun t193 => (if ((rd_T48 x0 x11).f0) = x1 then (if t193 = true then (if x11 < (x10.length : Int) then (some ((x10.set (x11 : Int).toNat (⟨(rd_T48 x10 x11).f0, (rd_T48 x10 x11).f1, x3⟩ : S48)), true)) else (none)) else (spec_Reply.l0 k x0 x1 x2 x3 x10 (wrap64 (x11 + 1)))) else (spec_Reply.l0 k x0 x1 x2 x3 x10 (wrap64 (x11 + 1))))) else (if ((rd_T48 x0 x11).f0) = x1 then (spec_Reply.l0 k x0 x1 x2 x3 x10 (wrap64 (x11 + 1))) else (spec_Reply.l0 k x0 x1 x2 x3 x10 (wrap64 (x11 + 1))))) else (if ((rd_T48 x0 x11).f0) = x1 then (spec_Reply.l0 k x0 x1 x2 x3 x10 (wrap64 (x11 + 1))) else (spec_Reply.l0 k x0 x1 x2 x3 x10 (wrap64 (x11 + 1)))))) else (none)) else (none)) else (some (x10, false))
end
def spec_Reply.f (k : Nat) (l0 : List (S48)) (a1 : Int) (a2 : Int) (a3 : Int) : Option ((List (S48)) × Bool) := (some (([] : List (S48)) : List (S48))).bind fun y178 => (if y178.length + l0.length < 5864062014805 then (spec_Reply.l0 k l0 a1 a2 a3 (y178 ++ l0) 0) else (none))
theorem spec_Reply.mono_l : ∀ k, (∀ y0 y1 y2 y3 y4 y5, LeO (spec_Reply.l0 k y0 y1 y2 y3 y4 y5) (spec_Reply.l0 (k + 1) y0 y1 y2 y3 y4 y5)) ∧ (∀ y0 y1 y2 y3 y4 y5 y6, LeO (spec_Reply.j1 k y0 y1 y2 y3 y4 y5 y6) (spec_Reply.j1 (k + 1) y0 y1 y2 y3 y4 y5 y6))
 | 0 => ⟨fun _ _ _ _ _ _ r h => by simp [spec_Reply.l0] at h, fun _ _ _ _ _ _ _ r h => by simp [spec_Reply.j1] at h⟩
 | k + 1 => by
  obtain ⟨ih0, ih1⟩ := spec_Reply.mono_l k
  refine ⟨?_, ?_⟩
  ·intro y0 y1 y2 y3 y4 y5
   unfold spec_Reply.l0
   repeat' first
   | (with_reducible exact ih0 _ _ _ _ _ _)
   | (with_reducible exact ih1 _ _ _ _ _ _ _)
   | (with_reducible exact spec_ArePoints.mono _ _)
   | (with_reducible exact LeO.refl _)
   | (with_reducible exact LeO.none _)
   | (with_reducible refine LeO.ite ?_ ?_)
   | (with_reducible refine LeO.bind ?_ (fun _ => ?_))
   | exact ih0 _ _ _ _ _ _
   | exact ih1 _ _ _ _ _ _ _
   | exact spec_ArePoints.mono _ _
   | exact LeO.none _
   | refine LeO.ite ?_ ?_
   | refine LeO.bind ?_ (fun _ => ?_)
  ·intro y0 y1 y2 y3 y4 y5 y6
   unfold spec_Reply.j1
   repeat' first
   | (with_reducible exact ih0 _ _ _ _ _ _)
   | (with_reducible exact ih1 _ _ _ _ _ _ _)
   | (with_reducible exact spec_ArePoints.mono _ _)
   | (with_reducible exact LeO.refl _)
   | (with_reducible exact LeO.none _)
   | (with_reducible refine LeO.ite ?_ ?_)
   | (with_reducible refine LeO.bind ?_ (fun _ => ?_))
   | exact ih0 _ _ _ _ _ _
   | exact ih1 _ _ _ _ _ _ _
   | exact spec_ArePoints.mono _ _
   | exact LeO.none _
   | refine LeO.ite ?_ ?_
   | refine LeO.bind ?_ (fun _ => ?_)
theorem spec_Reply.mono : ∀ a0 a1 a2 a3 k, LeO (spec_Reply.f k a0 a1 a2 a3) (spec_Reply.f (k + 1) a0 a1 a2 a3) := by
 intro a0 a1 a2 a3 k
 obtain ⟨ih0, ih1⟩ := spec_Reply.mono_l k
 unfold spec_Reply.f
 repeat' first
   | (with_reducible exact ih0 _ _ _ _ _ _)
   | (with_reducible exact ih1 _ _ _ _ _ _ _)
   | (with_reducible exact spec_ArePoints.mono _ _)
   | (with_reducible exact LeO.refl _)
   | (with_reducible exact LeO.none _)
   | (with_reducible refine LeO.ite ?_ ?_)
   | (with_reducible refine LeO.bind ?_ (fun _ => ?_))
   | exact ih0 _ _ _ _ _ _
   | exact ih1 _ _ _ _ _ _ _
   | exact spec_ArePoints.mono _ _
   | exact LeO.none _
   | refine LeO.ite ?_ ?_
   | refine LeO.bind ?_ (fun _ => ?_)
set_option maxHeartbeats 8000000 in
set_option maxRecDepth 100000 in
theorem spec_Reply.calls (k : Nat) (A0 : Option Addr) (c0 : Nat) (l0 : List (S48)) (a1 : Int) (a2 : Int) (a3 : Int) (r1 : List (S48)) (r2 : Bool) (w : World) (hr0 : Kd.C k48 w A0 l0.length l0) (hc0 : l0.length ≤ c0) (h : spec_Reply.f k l0 a1 a2 a3 = some (r1, r2)) :
  Calls Try.prog 16 #[.slice A0 l0.length c0, .int .i64 a1, .int .i64 a2, .int .i64 a3] w fun e w' => ∃ v0_ : Value, e = .returned (.tuple #[v0_, .bool r2]) ∧ Kd.R k48 48 w' w.heap.size (fun _ => True) v0_ r1 ∧ Below w.heap.size w w' := by
 have hu48 := Try.underlying48
 have HR0 := Aside0.mk hr0
 have HC0 := Aside0.mk hc0
 clear hr0 hc0
 have HB := Aside0.mk (Below.refl w.heap.size w)
 have H : ((some (([] : List (S48)) : List (S48))).bind fun y178 => (if y178.length + l0.length < 5864062014805 then (spec_Reply.l0 k l0 a1 a2 a3 (y178 ++ l0) 0) else (none))) = some (r1, r2) := h
 clear h
 obtain ⟨y178, hy178⟩ : ∃ y_ : List (S48), y_ = (([] : List (S48))) := ⟨_, rfl⟩
 replace H : (if y178.length + l0.length < 5864062014805 then (spec_Reply.l0 k l0 a1 a2 a3 (y178 ++ l0) 0) else (none)) = some (r1, r2) := by first | (rw [hy178]; with_reducible exact H) | (have H2_ := (Option.bind_some _ _).symm.trans H; rw [hy178]; with_reducible exact H2_) | (have H2_ := (Option.bind_some _ _).symm.trans H; with_reducible exact H2_) | with_reducible exact H | (rw [hy178]; exact H) | exact H
 have Ny178 := Aside0.mk hy178
 clear hy178
 by_cases c5 : y178.length + l0.length < 5864062014805
 ·rw [if_pos c5] at H
  have LMc5 := Aside0.mk c5
  clear c5
  obtain ⟨y181, hy181⟩ : ∃ y_ : List (S48), y_ = (y178 ++ l0) := ⟨_, rfl⟩
  replace H : (spec_Reply.l0 k l0 a1 a2 a3 y181 0) = some (r1, r2) := by first | (rw [hy181]; with_reducible exact H) | (have H2_ := (Option.bind_some _ _).symm.trans H; rw [hy181]; with_reducible exact H2_) | (have H2_ := (Option.bind_some _ _).symm.trans H; with_reducible exact H2_) | with_reducible exact H | (rw [hy181]; exact H) | exact H
  have Ny181 := Aside0.mk hy181
  clear hy181
  have H' := Aside0.mk H
  clear H
  go_enter Try.func16, Try.ntmps16
  go_wp2_with (first | ((with_reducible refine gate_dst (N := 15) rfl ?_); refine Kd.R_lit k48 _ 48 ?hg (N := 15) ?hd (xs := ([] : List (S48))) (inner := []) (ok := fun _ => True) (okp := fun _ => True) ?hr ?hp (fun _ hk => hk) trivial (Below.refl _ _) (Nat.le_refl _) (by simp) ?_; (case hd => rfl); (case hg => rfl); (case hr => first | (go_simp; done) | (go_simp; rfl)); (case hp => exact (Reps.none _ _)); intro v179 w6 ho7 hb hg_ hnew_; clear hg_ hnew_; (first | rw [← Ny178.out] at ho7 | (simp only [Int.reduceToNat] at ho7; rw [← Ny178.out] at ho7)); have n0_ := Aside0.mk (Kd.R_lower ho7 (below_size (by repeat (first | (with_reducible first | exact HB.out | apply below_alloc | apply pw_below_drewN | apply below_drew1) | exact HB.out)))); have n1_ := Aside0.mk (below_step (by repeat (first | (with_reducible first | exact HB.out | apply below_alloc | apply pw_below_drewN | apply below_drew1) | exact HB.out)) hb); clear HB; have HO180 := n0_; have HB := n1_; clear n0_ n1_; clear hb ho7) | ((with_reducible refine gate_builtin (b := .append) (xs := #[.tmp 15, .tmp 16]) rfl ?_); at_builtin; refine Kd.R_append_rows k48 (w0 := w) w.heap.size rfl (.tmp 15) (.tmp 16) 26 48 (.agg #[(.int .i64 0), (.int .i64 0), (.int .i64 0)]) 24 rfl Try.underlying26 info48 rfl (by decide) (by omega) v179 y178 l0 _ _ _ (fun _ => True) (fun _ => False) rfl rfl ?aO ?aR (fun _ _ h => h) (fun _ h => h.elim) ?aF ?aB ?aS ?aL ?_; (case aR => repeat (first | exact (Kd.C_below HR0.out HB.out) | (with_reducible refine Kd.C_alloc ?_ _) | (with_reducible refine Kd.C_drewN ?_ _) | (with_reducible refine Kd.C_drew ?_))); (case aB => exact (by repeat (first | (with_reducible first | exact HB.out | apply below_alloc | apply pw_below_drewN | apply below_drew1) | exact HB.out))); (case aF => exact (fun _ _ => trivial)); (case aO => exact (by (with_reducible repeat (first | apply Kd.R_alloc | apply Kd.R_drewN | apply Kd.R_drew)); exact HO180.out)); (case aS => exact (below_size (by repeat (first | (with_reducible first | exact HB.out | apply below_alloc | apply pw_below_drewN | apply below_drew1) | exact HB.out)))); (case aL => have := LMc5.out; omega); intro v182 w8 ho hb hg hat; rw [← Ny181.out] at ho; have n0_ := Aside0.mk (hb); have n1_ := Aside0.mk (ho); clear HB; clear HO180; have HB := n0_; have HO183 := n1_; clear n0_ n1_; clear ho hb hg hat))
  go_loopg [11] k (fun kq v11 w' => ∃ (x10_1 : List (S48)) (x11_1 : Int), v11 = .int .i64 x11_1 ∧ Aside0 (spec_Reply.l0 kq l0 a1 a2 a3 x10_1 x11_1 = some (r1, r2)) ∧ Aside0 (kq ≤ k) ∧ Aside0 (Kd.R k48 48 w' w.heap.size (fun _ => True) v182 x10_1) ∧ Aside0 (Below w.heap.size w w'))
  case atStart => exact ⟨(y181), (0), (by first | rfl | (simp; done) | (simp [*]; done)), H', ⟨Nat.le_refl _⟩, ⟨by (with_reducible repeat (first | apply Kd.R_alloc | apply Kd.R_drewN | apply Kd.R_drew)); exact HO183.out⟩, ⟨by repeat (first | (with_reducible first | exact HB.out | apply below_alloc | apply pw_below_drewN | apply below_drew1) | exact HB.out)⟩⟩
  case round =>
   clear H'
   try clear c1
   try clear p2
   try clear c5
   obtain ⟨x10_1, x11_1, rfl, HA, HK1, HO_10, HB⟩ := hrel
   cases gk with
   | zero => exact absurd HA.out (by simp [spec_Reply.l0])
   | succ k1 =>
    have H := HA.out
    clear HA
    simp only [spec_Reply.l0] at H
    have HC9 := Aside0.mk H
    clear H
    go_upto_region 3 with (fail)
    go_cut [29] (fun v29 wc => ∃ (kq : Nat) (x29_8 : Bool), v29 = .bool x29_8 ∧ Aside0 (spec_Reply.j1 kq l0 a1 a2 a3 x10_1 x11_1 x29_8 = some (r1, r2)) ∧ Aside0 (kq ≤ k1) ∧ Aside0 (Kd.R k48 48 wc w.heap.size (fun _ => True) v182 x10_1) ∧ Aside0 (Below w.heap.size w wc))
    case first =>
     have H := HC9.out
     clear HC9
     by_cases c10 : x11_1 < (l0.length : Int)
     ·rw [if_pos c10] at H
      have c10b0 : decide (x11_1 < (l0.length : Int)) = true := decide_eq_true c10
      clear c10
      (first | rw [c10b0] | (simp only [i64_w, i32_w]; rw [c10b0]) | skip)
      replace H := Option.bind_eq_some_iff.mp H
      obtain ⟨t184, A110, H⟩ := H
      replace H : (if t184 = true then ((spec_l1In.f a2 1 2).bind fun t185 => (spec_Reply.j1 k1 l0 a1 a2 a3 x10_1 x11_1 t185)) else (spec_Reply.j1 k1 l0 a1 a2 a3 x10_1 x11_1 false)) = some (r1, r2) := H
      have A11 := Aside0.mk A110
      clear A110
      by_cases c12 : t184 = true
      ·subst c12
       have H1 : ((spec_l1In.f a2 1 2).bind fun t185 => (spec_Reply.j1 k1 l0 a1 a2 a3 x10_1 x11_1 t185)) = some (r1, r2) := by rw [if_pos rfl] at H; exact H
       clear H
       have H := H1
       clear H1
       replace H := Option.bind_eq_some_iff.mp H
       obtain ⟨t185, A130, H⟩ := H
       replace H : (spec_Reply.j1 k1 l0 a1 a2 a3 x10_1 x11_1 t185) = some (r1, r2) := H
       have A13 := Aside0.mk A130
       clear A130
       have H' := Aside0.mk H
       clear H
       go_wp2_with (first | (go_at_call 30; (with_reducible refine (spec_ArePoints.calls k1 _ _ l0 true _ ?side1 ?side2 A11.out).mono ?_); (case side1 => repeat (first | exact (Kd.C_below HR0.out HB.out) | (with_reducible refine Kd.C_alloc ?_ _) | (with_reducible refine Kd.C_drewN ?_ _) | (with_reducible refine Kd.C_drew ?_))); (case side2 => exact HC0.out); rintro e w14 ⟨rfl, hb⟩; have n0_ := Aside0.mk (Kd.R_below (by (with_reducible repeat (first | apply Kd.R_alloc | apply Kd.R_drewN | apply Kd.R_drew)); exact HO_10.out) hb); have n1_ := Aside0.mk (below_step (by repeat (first | (with_reducible first | exact HB.out | apply below_alloc | apply pw_below_drewN | apply below_drew1) | exact HB.out)) hb); clear HO_10; clear HB; have HO_10 := n0_; have HB := n1_; clear n0_ n1_; (try clear hb); (try clear hb2); (try clear hk); (try clear hi)) | (go_at_call 31; (with_reducible refine (spec_l1In.calls a2 1 2 t185 _ A13.out).mono ?_); rintro e w' ⟨rfl, ⟨nd, rfl⟩⟩))
       go_meet
       case rel => exact ⟨_, (t185), (by first | rfl | (simp; done) | (simp [*]; done)), H', ⟨by have := HK1.out; first | omega | exact Nat.le_refl _⟩, ⟨by (with_reducible repeat (first | apply Kd.R_alloc | apply Kd.R_drewN | apply Kd.R_drew)); exact HO_10.out⟩, ⟨by repeat (first | (with_reducible first | exact HB.out | apply below_alloc | apply pw_below_drewN | apply below_drew1) | exact HB.out)⟩⟩
      ·replace c12 := Bool.eq_false_iff.mpr c12
       subst c12
       have H1 : (spec_Reply.j1 k1 l0 a1 a2 a3 x10_1 x11_1 false) = some (r1, r2) := by rw [if_neg (show ¬ (false = true) by decide)] at H; exact H
       clear H
       have H := H1
       clear H1
       have H' := Aside0.mk H
       clear H
       go_wp2_with (first | (go_at_call 30; (with_reducible refine (spec_ArePoints.calls k1 _ _ l0 false _ ?side1 ?side2 A11.out).mono ?_); (case side1 => repeat (first | exact (Kd.C_below HR0.out HB.out) | (with_reducible refine Kd.C_alloc ?_ _) | (with_reducible refine Kd.C_drewN ?_ _) | (with_reducible refine Kd.C_drew ?_))); (case side2 => exact HC0.out); rintro e w15 ⟨rfl, hb⟩; have n0_ := Aside0.mk (Kd.R_below (by (with_reducible repeat (first | apply Kd.R_alloc | apply Kd.R_drewN | apply Kd.R_drew)); exact HO_10.out) hb); have n1_ := Aside0.mk (below_step (by repeat (first | (with_reducible first | exact HB.out | apply below_alloc | apply pw_below_drewN | apply below_drew1) | exact HB.out)) hb); clear HO_10; clear HB; have HO_10 := n0_; have HB := n1_; clear n0_ n1_; (try clear hb); (try clear hb2); (try clear hk); (try clear hi)))
       go_meet
       case rel => exact ⟨_, (false), (by first | rfl | (simp; done) | (simp [*]; done)), H', ⟨by have := HK1.out; first | omega | exact Nat.le_refl _⟩, ⟨by (with_reducible repeat (first | apply Kd.R_alloc | apply Kd.R_drewN | apply Kd.R_drew)); exact HO_10.out⟩, ⟨by repeat (first | (with_reducible first | exact HB.out | apply below_alloc | apply pw_below_drewN | apply below_drew1) | exact HB.out)⟩⟩
     ·rw [if_neg c10] at H
      have c10b0 : decide (x11_1 < (l0.length : Int)) = false := decide_eq_false c10
      clear c10
      (first | rw [c10b0] | (simp only [i64_w, i32_w]; rw [c10b0]) | skip)
      have H' := Aside0.mk H
      clear H
      go_wp2
      go_meet
      case rel => exact ⟨_, (false), (by first | rfl | (simp; done) | (simp [*]; done)), H', ⟨by have := HK1.out; first | omega | exact Nat.le_refl _⟩, ⟨by (with_reducible repeat (first | apply Kd.R_alloc | apply Kd.R_drewN | apply Kd.R_drew)); exact HO_10.out⟩, ⟨by repeat (first | (with_reducible first | exact HB.out | apply below_alloc | apply pw_below_drewN | apply below_drew1) | exact HB.out)⟩⟩
    case rest =>
     clear HC9
     try clear c1
     try clear p2
     try clear c5
     try clear c10
     try clear c10b0
     try clear c12
     try clear p2
     obtain ⟨kq, x29_8, rfl, HA, HJ8, HO_10, HB⟩ := hcut
     cases kq with
     | zero => exact absurd HA.out (by simp [spec_Reply.j1])
     | succ kj8 =>
      have H := HA.out
      clear HA
      simp only [spec_Reply.j1] at H
      by_cases c16 : x29_8 = true
      ·subst c16
       have H1 : (if 0 ≤ x11_1 then (if x11_1 < (l0.length : Int) then (if ((rd_T48 l0 x11_1).f2) = 0 then (if a2 = ((rd_T48 l0 x11_1).f1) then (if ((rd_T48 l0 x11_1).f2) = 2 then ((spec_l1In.f a3 3 4).bind fun t188 => (if ((rd_T48 l0 x11_1).f0) = a1 then (if t188 = true then (if x11_1 < (x10_1.length : Int) then (some ((x10_1.set (x11_1 : Int).toNat (⟨(rd_T48 x10_1 x11_1).f0, (rd_T48 x10_1 x11_1).f1, a3⟩ : S48)), true)) else (none)) else (spec_Reply.l0 kj8 l0 a1 a2 a3 x10_1 (wrap64 (x11_1 + 1)))) else (spec_Reply.l0 kj8 l0 a1 a2 a3 x10_1 (wrap64 (x11_1 + 1))))) else (if ((rd_T48 l0 x11_1).f0) = a1 then (spec_Reply.l0 kj8 l0 a1 a2 a3 x10_1 (wrap64 (x11_1 + 1))) else (spec_Reply.l0 kj8 l0 a1 a2 a3 x10_1 (wrap64 (x11_1 + 1))))) else ((spec_l1In.f a3 1 2).bind fun t190 => (if ((rd_T48 l0 x11_1).f2) = 2 then (if ((rd_T48 l0 x11_1).f0) = a1 then (if t190 = true then (if x11_1 < (x10_1.length : Int) then (some ((x10_1.set (x11_1 : Int).toNat (⟨(rd_T48 x10_1 x11_1).f0, (rd_T48 x10_1 x11_1).f1, a3⟩ : S48)), true)) else (none)) else (spec_Reply.l0 kj8 l0 a1 a2 a3 x10_1 (wrap64 (x11_1 + 1)))) else (spec_Reply.l0 kj8 l0 a1 a2 a3 x10_1 (wrap64 (x11_1 + 1)))) else (if ((rd_T48 l0 x11_1).f0) = a1 then (if t190 = true then (if x11_1 < (x10_1.length : Int) then (some ((x10_1.set (x11_1 : Int).toNat (⟨(rd_T48 x10_1 x11_1).f0, (rd_T48 x10_1 x11_1).f1, a3⟩ : S48)), true)) else (none)) else (spec_Reply.l0 kj8 l0 a1 a2 a3 x10_1 (wrap64 (x11_1 + 1)))) else (spec_Reply.l0 kj8 l0 a1 a2 a3 x10_1 (wrap64 (x11_1 + 1))))))) else (if ((rd_T48 l0 x11_1).f2) = 2 then (if a2 = ((rd_T48 l0 x11_1).f1) then ((spec_l1In.f a3 3 4).bind fun t193 => (if ((rd_T48 l0 x11_1).f0) = a1 then (if t193 = true then (if x11_1 < (x10_1.length : Int) then (some ((x10_1.set (x11_1 : Int).toNat (⟨(rd_T48 x10_1 x11_1).f0, (rd_T48 x10_1 x11_1).f1, a3⟩ : S48)), true)) else (none)) else (spec_Reply.l0 kj8 l0 a1 a2 a3 x10_1 (wrap64 (x11_1 + 1)))) else (spec_Reply.l0 kj8 l0 a1 a2 a3 x10_1 (wrap64 (x11_1 + 1))))) else (if ((rd_T48 l0 x11_1).f0) = a1 then (spec_Reply.l0 kj8 l0 a1 a2 a3 x10_1 (wrap64 (x11_1 + 1))) else (spec_Reply.l0 kj8 l0 a1 a2 a3 x10_1 (wrap64 (x11_1 + 1))))) else (if ((rd_T48 l0 x11_1).f0) = a1 then (spec_Reply.l0 kj8 l0 a1 a2 a3 x10_1 (wrap64 (x11_1 + 1))) else (spec_Reply.l0 kj8 l0 a1 a2 a3 x10_1 (wrap64 (x11_1 + 1)))))) else (none)) else (none)) = some (r1, r2) := by rw [if_pos rfl] at H; exact H
       clear H
       have H := H1
       clear H1
       by_cases c17 : 0 ≤ x11_1
       ·rw [if_pos c17] at H
        have c17b0 : decide (0 ≤ x11_1) = true := decide_eq_true c17
        clear c17
        by_cases c18 : x11_1 < (l0.length : Int)
        ·rw [if_pos c18] at H
         have c18b0 : decide (x11_1 < (l0.length : Int)) = true := decide_eq_true c18
         clear c18
         by_cases c19 : ((rd_T48 l0 x11_1).f2) = 0
         ·rw [if_pos c19] at H
          have c19b0 : (((rd_T48 l0 x11_1).f2) == 0) = true := beq_iff_eq.mpr c19
          have c19b1 : (((rd_T48 l0 x11_1).f2) != 0) = false := bne_eq_false_iff_eq.mpr c19
          clear c19
          by_cases c20 : a2 = ((rd_T48 l0 x11_1).f1)
          ·rw [if_pos c20] at H
           have c20b0 : (a2 == ((rd_T48 l0 x11_1).f1)) = true := beq_iff_eq.mpr c20
           have c20b1 : (a2 != ((rd_T48 l0 x11_1).f1)) = false := bne_eq_false_iff_eq.mpr c20
           clear c20
           by_cases c21 : ((rd_T48 l0 x11_1).f2) = 2
           ·rw [if_pos c21] at H
            have c21b0 : (((rd_T48 l0 x11_1).f2) == 2) = true := beq_iff_eq.mpr c21
            have c21b1 : (((rd_T48 l0 x11_1).f2) != 2) = false := bne_eq_false_iff_eq.mpr c21
            clear c21
            replace H := Option.bind_eq_some_iff.mp H
            obtain ⟨t188, A220, H⟩ := H
            replace H : (if ((rd_T48 l0 x11_1).f0) = a1 then (if t188 = true then (if x11_1 < (x10_1.length : Int) then (some ((x10_1.set (x11_1 : Int).toNat (⟨(rd_T48 x10_1 x11_1).f0, (rd_T48 x10_1 x11_1).f1, a3⟩ : S48)), true)) else (none)) else (spec_Reply.l0 kj8 l0 a1 a2 a3 x10_1 (wrap64 (x11_1 + 1)))) else (spec_Reply.l0 kj8 l0 a1 a2 a3 x10_1 (wrap64 (x11_1 + 1)))) = some (r1, r2) := H
            have A22 := Aside0.mk A220
            clear A220
            by_cases c23 : ((rd_T48 l0 x11_1).f0) = a1
            ·rw [if_pos c23] at H
             have c23b0 : (((rd_T48 l0 x11_1).f0) == a1) = true := beq_iff_eq.mpr c23
             have c23b1 : (((rd_T48 l0 x11_1).f0) != a1) = false := bne_eq_false_iff_eq.mpr c23
             clear c23
             by_cases c24 : t188 = true
             ·subst c24
              have H1 : (if x11_1 < (x10_1.length : Int) then (some ((x10_1.set (x11_1 : Int).toNat (⟨(rd_T48 x10_1 x11_1).f0, (rd_T48 x10_1 x11_1).f1, a3⟩ : S48)), true)) else (none)) = some (r1, r2) := by rw [if_pos rfl] at H; exact H
              clear H
              have H := H1
              clear H1
              by_cases c25 : x11_1 < (x10_1.length : Int)
              ·rw [if_pos c25] at H
               have c25b0 : decide (x11_1 < (x10_1.length : Int)) = true := decide_eq_true c25
               clear c25
               obtain ⟨y189, hy189⟩ : ∃ y_ : List (S48), y_ = (x10_1.set (x11_1 : Int).toNat (⟨(rd_T48 x10_1 x11_1).f0, (rd_T48 x10_1 x11_1).f1, a3⟩ : S48)) := ⟨_, rfl⟩
               replace H : (some (y189, true)) = some (r1, r2) := by first | (rw [hy189]; with_reducible exact H) | (have H2_ := (Option.bind_some _ _).symm.trans H; rw [hy189]; with_reducible exact H2_) | (have H2_ := (Option.bind_some _ _).symm.trans H; with_reducible exact H2_) | with_reducible exact H | (rw [hy189]; exact H) | exact H
               have Ny189 := Aside0.mk hy189
               clear hy189
               simp only [Option.some.injEq, Prod.mk.injEq] at H
               obtain ⟨rfl, rfl⟩ := H
               have p186 : 0 ≤ (x11_1 : Int) := of_decide_eq_true (by first | (with_reducible assumption) | assumption)
               have q186 : x11_1 < (l0.length : Int) := of_decide_eq_true (by first | (with_reducible assumption) | assumption)
               obtain ⟨ad186, e186, hx186_0, hx186_1, hx186_2⟩ := at_T48 HR0.out x11_1 p186 q186
               cases e186
               replace hx186_0 := (HB.out.cell (World.block_lt_of_cell? w _ hx186_0)).trans hx186_0
               replace hx186_1 := (HB.out.cell (World.block_lt_of_cell? w _ hx186_1)).trans hx186_1
               replace hx186_2 := (HB.out.cell (World.block_lt_of_cell? w _ hx186_2)).trans hx186_2
               replace p186 := eq_true p186
               replace q186 := eq_true q186
               go_wp2_with (first | ((with_reducible refine gate_dst (N := 12) rfl ?_); refine box_event ?hg (N := 12) ?hd (cs := #[.int .i64 0, .int .i64 0, .int .i64 0]) (t := 48) ?hr ?_; (case hd => rfl); (case hg => rfl); (case hr => first | (go_simp; done) | (go_simp; rfl)); intro gb187 hg w27 hbox hb; have n0_ := Aside0.mk (Kd.R_below (Kd.R_elderB (by (with_reducible repeat (first | apply Kd.R_alloc | apply Kd.R_drewN | apply Kd.R_drew)); exact HO_10.out) gb187 (Nat.le_of_eq hg.symm)) hb); have n1_ := Aside0.mk (below_step (by repeat (first | (with_reducible first | exact HB.out | apply below_alloc | apply pw_below_drewN | apply below_drew1) | exact HB.out)) hb); have n2_ := Aside0.mk (hbox); have n3_ := Aside0.mk ((by rw [hg]; exact (below_size (by repeat (first | (with_reducible first | exact HB.out | apply below_alloc | apply pw_below_drewN | apply below_drew1) | exact HB.out))) : w.heap.size ≤ gb187)); have n4_ := Aside0.mk ((by rw [hg]; exact (below_size (by repeat (first | (with_reducible first | exact HB.out | apply below_alloc | apply pw_below_drewN | apply below_drew1) | exact HB.out))) : w.heap.size ≤ gb187)); clear HO_10; clear HB; have HO_10 := n0_; have HB := n1_; have BK187 := n2_; have GW187 := n3_; have GE187 := n4_; clear n0_ n1_ n2_ n3_ n4_; clear hb hbox hg; have hcz28_0 : w27.cell? ⟨gb187, 0, none⟩ = some (.int .i64 0) := (blk_cell BK187.out 0).trans rfl; have hcz28_1 : w27.cell? ⟨gb187, 1, none⟩ = some (.int .i64 0) := (blk_cell BK187.out 1).trans rfl; have hcz28_2 : w27.cell? ⟨gb187, 2, none⟩ = some (.int .i64 0) := (blk_cell BK187.out 2).trans rfl; have hfz28_0 := blk_frozen BK187.out 0; have hfz28_1 := blk_frozen BK187.out 1; have hfz28_2 := blk_frozen BK187.out 2) | ((with_reducible refine gate_store (t := 48) (p := 12) rfl ?_); refine store_event (t := 48) (p := 12) (v := ?vo_w29) (w1 := (((w27.setCell ⟨gb187, 0, none⟩ (.int .i64 ((rd_T48 l0 x11_1).f0))).setCell ⟨gb187, 1, none⟩ (.int .i64 ((rd_T48 l0 x11_1).f1))).setCell ⟨gb187, 2, none⟩ (.int .i64 ((rd_T48 l0 x11_1).f2)))) ?hg ?ho ?hn ?hr ?_; (case ho => rfl); (case hg => rfl); (case hn => rfl); (case hr => first | (go_simp; done) | (go_simp; rfl)); intro w29 hw; have n0_ : Aside0 (Kd.R k48 48 w29 w.heap.size (fun k_ => k_ ≠ gb187) v182 x10_1) := ⟨(by rw [hw]; exact (by (with_reducible repeat (first | apply Kd.R_alloc | apply Kd.R_drewN | apply Kd.R_drew)); exact Kd.R_mono (Kd.R_far (p := ⟨gb187, 2, none⟩) (Kd.R_far (p := ⟨gb187, 1, none⟩) (Kd.R_far (p := ⟨gb187, 0, none⟩) (Kd.R_mono HO_10.out (fun k_ hk => (⟨hk, hk.2⟩ : _ ∧ k_ ≠ gb187))) (fun _ hk => hk.2) (.int .i64 ((rd_T48 l0 x11_1).f0))) (fun _ hk => hk.2) (.int .i64 ((rd_T48 l0 x11_1).f1))) (fun _ hk => hk.2) (.int .i64 ((rd_T48 l0 x11_1).f2))) (fun _ hk => hk.1.2)))⟩; have n1_ : Aside0 (w29.heap[gb187]? = some (.cells #[.int .i64 ((rd_T48 l0 x11_1).f0), .int .i64 ((rd_T48 l0 x11_1).f1), .int .i64 ((rd_T48 l0 x11_1).f2)] 48 (0, 0))) := ⟨(by rw [hw]; exact (by (with_reducible repeat (first | refine blk_drewN ?_ _ | refine blk_drew ?_ | refine blk_alloc ?_ _)); refine blk_put (cs := #[.int .i64 ((rd_T48 l0 x11_1).f0), .int .i64 ((rd_T48 l0 x11_1).f1), .int .i64 0]) ?_ 2 _ rfl; (with_reducible repeat (first | refine blk_drewN ?_ _ | refine blk_drew ?_ | refine blk_alloc ?_ _)); refine blk_put (cs := #[.int .i64 ((rd_T48 l0 x11_1).f0), .int .i64 0, .int .i64 0]) ?_ 1 _ rfl; (with_reducible repeat (first | refine blk_drewN ?_ _ | refine blk_drew ?_ | refine blk_alloc ?_ _)); refine blk_put (cs := #[.int .i64 0, .int .i64 0, .int .i64 0]) ?_ 0 _ rfl; (with_reducible repeat (first | refine blk_drewN ?_ _ | refine blk_drew ?_ | refine blk_alloc ?_ _)); exact BK187.out))⟩; have n2_ : Aside0 (Below w.heap.size w w29) := ⟨(by rw [hw]; exact (by repeat (first | (with_reducible first | exact HB.out | apply below_alloc | apply pw_below_drewN | apply below_drew1 | refine below_set ?_ GE187.out) | exact HB.out)))⟩; clear hw; clear HO_10; clear BK187; clear HB; have HO_10 := n0_; have BK187 := n1_; have HB := n2_; clear n0_ n1_ n2_; have hcz30_0 : w29.cell? ⟨gb187, 0, none⟩ = some (.int .i64 ((rd_T48 l0 x11_1).f0)) := (blk_cell BK187.out 0).trans rfl; have hcz30_1 : w29.cell? ⟨gb187, 1, none⟩ = some (.int .i64 ((rd_T48 l0 x11_1).f1)) := (blk_cell BK187.out 1).trans rfl; have hcz30_2 : w29.cell? ⟨gb187, 2, none⟩ = some (.int .i64 ((rd_T48 l0 x11_1).f2)) := (blk_cell BK187.out 2).trans rfl; have hfz30_0 := blk_frozen BK187.out 0; have hfz30_1 := blk_frozen BK187.out 1; have hfz30_2 := blk_frozen BK187.out 2) | (go_at_call 31; (with_reducible refine (spec_l1In.calls a3 3 4 true _ A22.out).mono ?_); rintro e w' ⟨rfl, ⟨nd, rfl⟩⟩; (try (rw [drewN_self w29]; generalize hq_ : World.drewN w29 _ = w29; have n0_ : Aside0 (Kd.R k48 48 w29 w.heap.size (fun k_ => k_ ≠ gb187) v182 x10_1) := ⟨by rw [← hq_]; exact (by (with_reducible repeat (first | apply Kd.R_alloc | apply Kd.R_drewN | apply Kd.R_drew)); exact HO_10.out)⟩; have n1_ : Aside0 (w29.heap[gb187]? = some (.cells #[.int .i64 ((rd_T48 l0 x11_1).f0), .int .i64 ((rd_T48 l0 x11_1).f1), .int .i64 ((rd_T48 l0 x11_1).f2)] 48 (0, 0))) := ⟨by rw [← hq_]; exact (by (with_reducible repeat (first | refine blk_drewN ?_ _ | refine blk_drew ?_ | refine blk_alloc ?_ _)); exact BK187.out)⟩; have n2_ : Aside0 (Below w.heap.size w w29) := ⟨by rw [← hq_]; exact (by repeat (first | (with_reducible first | exact HB.out | apply below_alloc | apply pw_below_drewN | apply below_drew1 | refine below_set ?_ GE187.out) | exact HB.out))⟩; clear HO_10 BK187 HB hq_; have HO_10 := n0_; have BK187 := n1_; have HB := n2_; clear n0_ n1_ n2_)); (try (have hcugb187_0 : w29.cell? ⟨gb187, 0, none⟩ = some (.int .i64 ((rd_T48 l0 x11_1).f0)) := (blk_cell BK187.out 0).trans rfl)); (try (have hfugb187_0 := blk_frozen BK187.out 0)); (try (have hcugb187_1 : w29.cell? ⟨gb187, 1, none⟩ = some (.int .i64 ((rd_T48 l0 x11_1).f1)) := (blk_cell BK187.out 1).trans rfl)); (try (have hfugb187_1 := blk_frozen BK187.out 1)); (try (have hcugb187_2 : w29.cell? ⟨gb187, 2, none⟩ = some (.int .i64 ((rd_T48 l0 x11_1).f2)) := (blk_cell BK187.out 2).trans rfl)); (try (have hfugb187_2 := blk_frozen BK187.out 2)); have p26 : 0 ≤ (x11_1 : Int) := of_decide_eq_true (by first | (with_reducible assumption) | assumption); have q26 : (x11_1 : Int) < ((x10_1.length : Int) : Int) := of_decide_eq_true (by first | (with_reducible assumption) | assumption); obtain ⟨go26, co26, eo26, gb26, gl26, cl26, HG26⟩ := Kd.R_form HO_10.out (by omega); (first | cases eo26 | (injection eo26 with ea_ en_ ec_; (first | subst ea_ | (injection ea_ with ea_; subst ea_)); subst ec_; clear en_)); have GB26 := Aside0.mk gb26; have GG26 := Aside0.mk HG26; clear gb26 gl26 HG26; obtain ⟨ce26, hcl26, hM26, hcc26, hfr26⟩ := Kd.R_elem HO_10.out z48 (x11_1 : Int) p26 q26; obtain rfl := k48_openM hM26; have hx26_0 : w29.cell? ⟨go26, (x11_1 : Int).toNat * 3, none⟩ = some (.int .i64 ((rd_T48 x10_1 x11_1).f0)) := hcc26 0 _ rfl; have hx26_1 : w29.cell? ⟨go26, (x11_1 : Int).toNat * 3 + 1, none⟩ = some (.int .i64 ((rd_T48 x10_1 x11_1).f1)) := hcc26 1 _ rfl; have hx26_2 : w29.cell? ⟨go26, (x11_1 : Int).toNat * 3 + 2, none⟩ = some (.int .i64 ((rd_T48 x10_1 x11_1).f2)) := hcc26 2 _ rfl; have hf26_0 : w29.frozen? ⟨go26, (x11_1 : Int).toNat * 3, none⟩ = false := hfr26 0; have hf26_1 : w29.frozen? ⟨go26, (x11_1 : Int).toNat * 3 + 1, none⟩ = false := hfr26 1; have hf26_2 : w29.frozen? ⟨go26, (x11_1 : Int).toNat * 3 + 2, none⟩ = false := hfr26 2; (try clear hM26); clear hcl26 hcc26 hfr26; replace p26 := eq_true p26; replace q26 := eq_true q26; have HX31 := Aside0.mk (show Kd.R k48 48 w29 w.heap.size (fun k_ => k_ ≠ gb187) (.slice (some ⟨go26, 0, none⟩) x10_1.length co26) x10_1 from (by (with_reducible repeat (first | apply Kd.R_alloc | apply Kd.R_drewN | apply Kd.R_drew)); exact HO_10.out)); obtain ⟨ce31, hcl31, hM31, hcc31, hfr31⟩ := Kd.R_elem HX31.out z48 (x11_1 : Int) (of_decide_eq_true (by first | (with_reducible assumption) | assumption)) (by have h_ : (x11_1 : Int) < ((x10_1.length : Int) : Int) := of_decide_eq_true (by first | (with_reducible assumption) | assumption); first | exact h_ | (have e_ := (Kd.R_reads' HO_10.out).1; omega) | simpa using h_); obtain rfl := k48_openM hM31; have HP31 := Kd.R_seg HX31.out (x11_1 : Int) (of_decide_eq_true (by first | (with_reducible assumption) | assumption)) (by have h_ : (x11_1 : Int) < ((x10_1.length : Int) : Int) := of_decide_eq_true (by first | (with_reducible assumption) | assumption); first | exact h_ | (have e_ := (Kd.R_reads' HO_10.out).1; omega) | simpa using h_) (seg := [.int .i64 a3]) (j := 2) hcl31 hcc31 (show 3 ≤ 3 from by decide) (x' := (⟨(rd_T48 x10_1 x11_1).f0, (rd_T48 x10_1 x11_1).f1, a3⟩ : S48)) (k48_mkM _ _ _ (⟨(rd_T48 x10_1 x11_1).f0, (rd_T48 x10_1 x11_1).f1, a3⟩ : S48) ) (fun _ hk => hk); have hx31_2 := hcc31 2 _ rfl; (try simp only [show (k48).sz = 3 from rfl, Nat.mul_one, Nat.add_zero] at hx31_2); have hf31_2 := hfr31 2; (try simp only [show (k48).sz = 3 from rfl, Nat.mul_one, Nat.add_zero] at hf31_2); (try clear hM31); clear hcl31 hcc31 hfr31) | ((with_reducible refine gate_store (t := 3) (p := 76) rfl ?_); refine store_event (t := 3) (p := 76) (v := ?vo_w32) (w1 := (w29.setCell ⟨go26, (x11_1 : Int).toNat * 3 + 2, none⟩ (.int .i64 a3))) ?hg ?ho ?hn ?hr ?_; (case ho => rfl); (case hg => rfl); (case hn => rfl); (case hr => first | (go_simp; done) | (go_simp; rfl)); intro w32 hw; have hg : w29.grownBy w32 (some go26) := (by rw [hw]; exact HP31.2); have hp_ : Kd.R k48 48 w32 w.heap.size (fun k_ => k_ ≠ gb187) (.slice (some ⟨go26, 0, none⟩) x10_1.length co26) y189 := (by rw [hw, Ny189.out]; exact HP31.1); clear HP31; have n0_ := Aside0.mk (hp_); have n1_ := Aside0.mk (blk_grown (g := gb187) (o := .cells #[.int .i64 ((rd_T48 l0 x11_1).f0), .int .i64 ((rd_T48 l0 x11_1).f1), .int .i64 ((rd_T48 l0 x11_1).f2)] 48 (0, 0)) (by (with_reducible repeat (first | refine blk_drewN ?_ _ | refine blk_drew ?_ | refine blk_alloc ?_ _)); exact BK187.out) hg (Kd.R_away HO_10.out (fun _ hk => hk))); have n2_ := Aside0.mk ((by rw [hw]; exact below_set (HB.out) GB26.out : Below w.heap.size w w32)); clear HO_10; clear BK187; clear HB; have HO_10 := n0_; have BK187 := n1_; have HB := n2_; clear n0_ n1_ n2_; clear hg hw hp_))
               go_ret2
               exact ⟨_, by first | rfl | (simp [errW_none, errW_some] <;> rfl) | (simp [*, errW_none, errW_some] <;> rfl), by (with_reducible repeat (first | apply Kd.R_alloc | apply Kd.R_drewN | apply Kd.R_drew)); exact Kd.R_mono HO_10.out (fun _ hk => trivial), by repeat (first | (with_reducible first | exact HB.out | apply below_alloc | apply pw_below_drewN | apply below_drew1 | refine below_set ?_ GE187.out) | exact HB.out)⟩
              ·rw [if_neg c25] at H
               exact absurd H (by simp)
             ·replace c24 := Bool.eq_false_iff.mpr c24
              subst c24
              have H1 : (spec_Reply.l0 kj8 l0 a1 a2 a3 x10_1 (wrap64 (x11_1 + 1))) = some (r1, r2) := by rw [if_neg (show ¬ (false = true) by decide)] at H; exact H
              clear H
              have H := H1
              clear H1
              have H' := Aside0.mk H
              clear H
              have p186 : 0 ≤ (x11_1 : Int) := of_decide_eq_true (by first | (with_reducible assumption) | assumption)
              have q186 : x11_1 < (l0.length : Int) := of_decide_eq_true (by first | (with_reducible assumption) | assumption)
              obtain ⟨ad186, e186, hx186_0, hx186_1, hx186_2⟩ := at_T48 HR0.out x11_1 p186 q186
              cases e186
              replace hx186_0 := (HB.out.cell (World.block_lt_of_cell? w _ hx186_0)).trans hx186_0
              replace hx186_1 := (HB.out.cell (World.block_lt_of_cell? w _ hx186_1)).trans hx186_1
              replace hx186_2 := (HB.out.cell (World.block_lt_of_cell? w _ hx186_2)).trans hx186_2
              replace p186 := eq_true p186
              replace q186 := eq_true q186
              go_wp2_with (first | ((with_reducible refine gate_dst (N := 12) rfl ?_); refine box_event ?hg (N := 12) ?hd (cs := #[.int .i64 0, .int .i64 0, .int .i64 0]) (t := 48) ?hr ?_; (case hd => rfl); (case hg => rfl); (case hr => first | (go_simp; done) | (go_simp; rfl)); intro gb187 hg w33 hbox hb; have n0_ := Aside0.mk (Kd.R_below (Kd.R_elderB (by (with_reducible repeat (first | apply Kd.R_alloc | apply Kd.R_drewN | apply Kd.R_drew)); exact HO_10.out) gb187 (Nat.le_of_eq hg.symm)) hb); have n1_ := Aside0.mk (below_step (by repeat (first | (with_reducible first | exact HB.out | apply below_alloc | apply pw_below_drewN | apply below_drew1) | exact HB.out)) hb); have n2_ := Aside0.mk (hbox); have n3_ := Aside0.mk ((by rw [hg]; exact (below_size (by repeat (first | (with_reducible first | exact HB.out | apply below_alloc | apply pw_below_drewN | apply below_drew1) | exact HB.out))) : w.heap.size ≤ gb187)); have n4_ := Aside0.mk ((by rw [hg]; exact (below_size (by repeat (first | (with_reducible first | exact HB.out | apply below_alloc | apply pw_below_drewN | apply below_drew1) | exact HB.out))) : w.heap.size ≤ gb187)); clear HO_10; clear HB; have HO_10 := n0_; have HB := n1_; have BK187 := n2_; have GW187 := n3_; have GE187 := n4_; clear n0_ n1_ n2_ n3_ n4_; clear hb hbox hg; have hcz34_0 : w33.cell? ⟨gb187, 0, none⟩ = some (.int .i64 0) := (blk_cell BK187.out 0).trans rfl; have hcz34_1 : w33.cell? ⟨gb187, 1, none⟩ = some (.int .i64 0) := (blk_cell BK187.out 1).trans rfl; have hcz34_2 : w33.cell? ⟨gb187, 2, none⟩ = some (.int .i64 0) := (blk_cell BK187.out 2).trans rfl; have hfz34_0 := blk_frozen BK187.out 0; have hfz34_1 := blk_frozen BK187.out 1; have hfz34_2 := blk_frozen BK187.out 2) | (go_at_call 31; (with_reducible refine (spec_l1In.calls a3 3 4 false _ A22.out).mono ?_); rintro e w' ⟨rfl, ⟨nd, rfl⟩⟩))
              go_roundg kj8
              case measure => have := HK1.out; have := HJ8.out; omega
              case rel => exact ⟨(x10_1), (wrap64 (x11_1 + 1)), (by first | rfl | (simp; done) | (simp [*]; done)), H', ⟨by have := HK1.out; have := HJ8.out; omega⟩, ⟨by (with_reducible repeat (first | apply Kd.R_alloc | apply Kd.R_drewN | apply Kd.R_drew)); exact Kd.R_mono (Kd.R_far (p := ⟨gb187, 2, none⟩) (Kd.R_far (p := ⟨gb187, 1, none⟩) (Kd.R_far (p := ⟨gb187, 0, none⟩) (Kd.R_mono HO_10.out (fun k_ hk => (⟨hk, hk.2⟩ : _ ∧ k_ ≠ gb187))) (fun _ hk => hk.2) (.int .i64 ((rd_T48 l0 x11_1).f0))) (fun _ hk => hk.2) (.int .i64 ((rd_T48 l0 x11_1).f1))) (fun _ hk => hk.2) (.int .i64 ((rd_T48 l0 x11_1).f2))) (fun _ hk => trivial)⟩, ⟨by repeat (first | (with_reducible first | exact HB.out | apply below_alloc | apply pw_below_drewN | apply below_drew1 | refine below_set ?_ GE187.out) | exact HB.out)⟩⟩
            ·rw [if_neg c23] at H
             have c23b0 : (((rd_T48 l0 x11_1).f0) == a1) = false := beq_eq_false_iff_ne.mpr c23
             have c23b1 : (((rd_T48 l0 x11_1).f0) != a1) = true := bne_iff_ne.mpr c23
             have H' := Aside0.mk H
             clear H
             have p186 : 0 ≤ (x11_1 : Int) := of_decide_eq_true (by first | (with_reducible assumption) | assumption)
             have q186 : x11_1 < (l0.length : Int) := of_decide_eq_true (by first | (with_reducible assumption) | assumption)
             obtain ⟨ad186, e186, hx186_0, hx186_1, hx186_2⟩ := at_T48 HR0.out x11_1 p186 q186
             cases e186
             replace hx186_0 := (HB.out.cell (World.block_lt_of_cell? w _ hx186_0)).trans hx186_0
             replace hx186_1 := (HB.out.cell (World.block_lt_of_cell? w _ hx186_1)).trans hx186_1
             replace hx186_2 := (HB.out.cell (World.block_lt_of_cell? w _ hx186_2)).trans hx186_2
             replace p186 := eq_true p186
             replace q186 := eq_true q186
             go_wp2_with (first | ((with_reducible refine gate_dst (N := 12) rfl ?_); refine box_event ?hg (N := 12) ?hd (cs := #[.int .i64 0, .int .i64 0, .int .i64 0]) (t := 48) ?hr ?_; (case hd => rfl); (case hg => rfl); (case hr => first | (go_simp; done) | (go_simp; rfl)); intro gb187 hg w35 hbox hb; have n0_ := Aside0.mk (Kd.R_below (Kd.R_elderB (by (with_reducible repeat (first | apply Kd.R_alloc | apply Kd.R_drewN | apply Kd.R_drew)); exact HO_10.out) gb187 (Nat.le_of_eq hg.symm)) hb); have n1_ := Aside0.mk (below_step (by repeat (first | (with_reducible first | exact HB.out | apply below_alloc | apply pw_below_drewN | apply below_drew1) | exact HB.out)) hb); have n2_ := Aside0.mk (hbox); have n3_ := Aside0.mk ((by rw [hg]; exact (below_size (by repeat (first | (with_reducible first | exact HB.out | apply below_alloc | apply pw_below_drewN | apply below_drew1) | exact HB.out))) : w.heap.size ≤ gb187)); have n4_ := Aside0.mk ((by rw [hg]; exact (below_size (by repeat (first | (with_reducible first | exact HB.out | apply below_alloc | apply pw_below_drewN | apply below_drew1) | exact HB.out))) : w.heap.size ≤ gb187)); clear HO_10; clear HB; have HO_10 := n0_; have HB := n1_; have BK187 := n2_; have GW187 := n3_; have GE187 := n4_; clear n0_ n1_ n2_ n3_ n4_; clear hb hbox hg; have hcz36_0 : w35.cell? ⟨gb187, 0, none⟩ = some (.int .i64 0) := (blk_cell BK187.out 0).trans rfl; have hcz36_1 : w35.cell? ⟨gb187, 1, none⟩ = some (.int .i64 0) := (blk_cell BK187.out 1).trans rfl; have hcz36_2 : w35.cell? ⟨gb187, 2, none⟩ = some (.int .i64 0) := (blk_cell BK187.out 2).trans rfl; have hfz36_0 := blk_frozen BK187.out 0; have hfz36_1 := blk_frozen BK187.out 1; have hfz36_2 := blk_frozen BK187.out 2) | (go_at_call 31; (with_reducible refine (spec_l1In.calls a3 3 4 t188 _ A22.out).mono ?_); rintro e w' ⟨rfl, ⟨nd, rfl⟩⟩))
             go_roundg kj8
             case measure => have := HK1.out; have := HJ8.out; omega
             case rel => exact ⟨(x10_1), (wrap64 (x11_1 + 1)), (by first | rfl | (simp; done) | (simp [*]; done)), H', ⟨by have := HK1.out; have := HJ8.out; omega⟩, ⟨by (with_reducible repeat (first | apply Kd.R_alloc | apply Kd.R_drewN | apply Kd.R_drew)); exact Kd.R_mono (Kd.R_far (p := ⟨gb187, 2, none⟩) (Kd.R_far (p := ⟨gb187, 1, none⟩) (Kd.R_far (p := ⟨gb187, 0, none⟩) (Kd.R_mono HO_10.out (fun k_ hk => (⟨hk, hk.2⟩ : _ ∧ k_ ≠ gb187))) (fun _ hk => hk.2) (.int .i64 ((rd_T48 l0 x11_1).f0))) (fun _ hk => hk.2) (.int .i64 ((rd_T48 l0 x11_1).f1))) (fun _ hk => hk.2) (.int .i64 ((rd_T48 l0 x11_1).f2))) (fun _ hk => trivial)⟩, ⟨by repeat (first | (with_reducible first | exact HB.out | apply below_alloc | apply pw_below_drewN | apply below_drew1 | refine below_set ?_ GE187.out) | exact HB.out)⟩⟩
           ·rw [if_neg c21] at H
            have c21b0 : (((rd_T48 l0 x11_1).f2) == 2) = false := beq_eq_false_iff_ne.mpr c21
            have c21b1 : (((rd_T48 l0 x11_1).f2) != 2) = true := bne_iff_ne.mpr c21
            by_cases c37 : ((rd_T48 l0 x11_1).f0) = a1
            ·rw [if_pos c37] at H
             have c37b0 : (((rd_T48 l0 x11_1).f0) == a1) = true := beq_iff_eq.mpr c37
             have c37b1 : (((rd_T48 l0 x11_1).f0) != a1) = false := bne_eq_false_iff_eq.mpr c37
             clear c37
             have H' := Aside0.mk H
             clear H
             have p186 : 0 ≤ (x11_1 : Int) := of_decide_eq_true (by first | (with_reducible assumption) | assumption)
             have q186 : x11_1 < (l0.length : Int) := of_decide_eq_true (by first | (with_reducible assumption) | assumption)
             obtain ⟨ad186, e186, hx186_0, hx186_1, hx186_2⟩ := at_T48 HR0.out x11_1 p186 q186
             cases e186
             replace hx186_0 := (HB.out.cell (World.block_lt_of_cell? w _ hx186_0)).trans hx186_0
             replace hx186_1 := (HB.out.cell (World.block_lt_of_cell? w _ hx186_1)).trans hx186_1
             replace hx186_2 := (HB.out.cell (World.block_lt_of_cell? w _ hx186_2)).trans hx186_2
             replace p186 := eq_true p186
             replace q186 := eq_true q186
             go_wp2_with (first | ((with_reducible refine gate_dst (N := 12) rfl ?_); refine box_event ?hg (N := 12) ?hd (cs := #[.int .i64 0, .int .i64 0, .int .i64 0]) (t := 48) ?hr ?_; (case hd => rfl); (case hg => rfl); (case hr => first | (go_simp; done) | (go_simp; rfl)); intro gb187 hg w38 hbox hb; have n0_ := Aside0.mk (Kd.R_below (Kd.R_elderB (by (with_reducible repeat (first | apply Kd.R_alloc | apply Kd.R_drewN | apply Kd.R_drew)); exact HO_10.out) gb187 (Nat.le_of_eq hg.symm)) hb); have n1_ := Aside0.mk (below_step (by repeat (first | (with_reducible first | exact HB.out | apply below_alloc | apply pw_below_drewN | apply below_drew1) | exact HB.out)) hb); have n2_ := Aside0.mk (hbox); have n3_ := Aside0.mk ((by rw [hg]; exact (below_size (by repeat (first | (with_reducible first | exact HB.out | apply below_alloc | apply pw_below_drewN | apply below_drew1) | exact HB.out))) : w.heap.size ≤ gb187)); have n4_ := Aside0.mk ((by rw [hg]; exact (below_size (by repeat (first | (with_reducible first | exact HB.out | apply below_alloc | apply pw_below_drewN | apply below_drew1) | exact HB.out))) : w.heap.size ≤ gb187)); clear HO_10; clear HB; have HO_10 := n0_; have HB := n1_; have BK187 := n2_; have GW187 := n3_; have GE187 := n4_; clear n0_ n1_ n2_ n3_ n4_; clear hb hbox hg; have hcz39_0 : w38.cell? ⟨gb187, 0, none⟩ = some (.int .i64 0) := (blk_cell BK187.out 0).trans rfl; have hcz39_1 : w38.cell? ⟨gb187, 1, none⟩ = some (.int .i64 0) := (blk_cell BK187.out 1).trans rfl; have hcz39_2 : w38.cell? ⟨gb187, 2, none⟩ = some (.int .i64 0) := (blk_cell BK187.out 2).trans rfl; have hfz39_0 := blk_frozen BK187.out 0; have hfz39_1 := blk_frozen BK187.out 1; have hfz39_2 := blk_frozen BK187.out 2))
             go_roundg kj8
             case measure => have := HK1.out; have := HJ8.out; omega
             case rel => exact ⟨(x10_1), (wrap64 (x11_1 + 1)), (by first | rfl | (simp; done) | (simp [*]; done)), H', ⟨by have := HK1.out; have := HJ8.out; omega⟩, ⟨by (with_reducible repeat (first | apply Kd.R_alloc | apply Kd.R_drewN | apply Kd.R_drew)); exact Kd.R_mono (Kd.R_far (p := ⟨gb187, 2, none⟩) (Kd.R_far (p := ⟨gb187, 1, none⟩) (Kd.R_far (p := ⟨gb187, 0, none⟩) (Kd.R_mono HO_10.out (fun k_ hk => (⟨hk, hk.2⟩ : _ ∧ k_ ≠ gb187))) (fun _ hk => hk.2) (.int .i64 ((rd_T48 l0 x11_1).f0))) (fun _ hk => hk.2) (.int .i64 ((rd_T48 l0 x11_1).f1))) (fun _ hk => hk.2) (.int .i64 ((rd_T48 l0 x11_1).f2))) (fun _ hk => trivial)⟩, ⟨by repeat (first | (with_reducible first | exact HB.out | apply below_alloc | apply pw_below_drewN | apply below_drew1 | refine below_set ?_ GE187.out) | exact HB.out)⟩⟩
            ·rw [if_neg c37] at H
             have c37b0 : (((rd_T48 l0 x11_1).f0) == a1) = false := beq_eq_false_iff_ne.mpr c37
             have c37b1 : (((rd_T48 l0 x11_1).f0) != a1) = true := bne_iff_ne.mpr c37
             have H' := Aside0.mk H
             clear H
             have p186 : 0 ≤ (x11_1 : Int) := of_decide_eq_true (by first | (with_reducible assumption) | assumption)
             have q186 : x11_1 < (l0.length : Int) := of_decide_eq_true (by first | (with_reducible assumption) | assumption)
             obtain ⟨ad186, e186, hx186_0, hx186_1, hx186_2⟩ := at_T48 HR0.out x11_1 p186 q186
             cases e186
             replace hx186_0 := (HB.out.cell (World.block_lt_of_cell? w _ hx186_0)).trans hx186_0
             replace hx186_1 := (HB.out.cell (World.block_lt_of_cell? w _ hx186_1)).trans hx186_1
             replace hx186_2 := (HB.out.cell (World.block_lt_of_cell? w _ hx186_2)).trans hx186_2
             replace p186 := eq_true p186
             replace q186 := eq_true q186
             go_wp2_with (first | ((with_reducible refine gate_dst (N := 12) rfl ?_); refine box_event ?hg (N := 12) ?hd (cs := #[.int .i64 0, .int .i64 0, .int .i64 0]) (t := 48) ?hr ?_; (case hd => rfl); (case hg => rfl); (case hr => first | (go_simp; done) | (go_simp; rfl)); intro gb187 hg w40 hbox hb; have n0_ := Aside0.mk (Kd.R_below (Kd.R_elderB (by (with_reducible repeat (first | apply Kd.R_alloc | apply Kd.R_drewN | apply Kd.R_drew)); exact HO_10.out) gb187 (Nat.le_of_eq hg.symm)) hb); have n1_ := Aside0.mk (below_step (by repeat (first | (with_reducible first | exact HB.out | apply below_alloc | apply pw_below_drewN | apply below_drew1) | exact HB.out)) hb); have n2_ := Aside0.mk (hbox); have n3_ := Aside0.mk ((by rw [hg]; exact (below_size (by repeat (first | (with_reducible first | exact HB.out | apply below_alloc | apply pw_below_drewN | apply below_drew1) | exact HB.out))) : w.heap.size ≤ gb187)); have n4_ := Aside0.mk ((by rw [hg]; exact (below_size (by repeat (first | (with_reducible first | exact HB.out | apply below_alloc | apply pw_below_drewN | apply below_drew1) | exact HB.out))) : w.heap.size ≤ gb187)); clear HO_10; clear HB; have HO_10 := n0_; have HB := n1_; have BK187 := n2_; have GW187 := n3_; have GE187 := n4_; clear n0_ n1_ n2_ n3_ n4_; clear hb hbox hg; have hcz41_0 : w40.cell? ⟨gb187, 0, none⟩ = some (.int .i64 0) := (blk_cell BK187.out 0).trans rfl; have hcz41_1 : w40.cell? ⟨gb187, 1, none⟩ = some (.int .i64 0) := (blk_cell BK187.out 1).trans rfl; have hcz41_2 : w40.cell? ⟨gb187, 2, none⟩ = some (.int .i64 0) := (blk_cell BK187.out 2).trans rfl; have hfz41_0 := blk_frozen BK187.out 0; have hfz41_1 := blk_frozen BK187.out 1; have hfz41_2 := blk_frozen BK187.out 2))
             go_roundg kj8
             case measure => have := HK1.out; have := HJ8.out; omega
             case rel => exact ⟨(x10_1), (wrap64 (x11_1 + 1)), (by first | rfl | (simp; done) | (simp [*]; done)), H', ⟨by have := HK1.out; have := HJ8.out; omega⟩, ⟨by (with_reducible repeat (first | apply Kd.R_alloc | apply Kd.R_drewN | apply Kd.R_drew)); exact Kd.R_mono (Kd.R_far (p := ⟨gb187, 2, none⟩) (Kd.R_far (p := ⟨gb187, 1, none⟩) (Kd.R_far (p := ⟨gb187, 0, none⟩) (Kd.R_mono HO_10.out (fun k_ hk => (⟨hk, hk.2⟩ : _ ∧ k_ ≠ gb187))) (fun _ hk => hk.2) (.int .i64 ((rd_T48 l0 x11_1).f0))) (fun _ hk => hk.2) (.int .i64 ((rd_T48 l0 x11_1).f1))) (fun _ hk => hk.2) (.int .i64 ((rd_T48 l0 x11_1).f2))) (fun _ hk => trivial)⟩, ⟨by repeat (first | (with_reducible first | exact HB.out | apply below_alloc | apply pw_below_drewN | apply below_drew1 | refine below_set ?_ GE187.out) | exact HB.out)⟩⟩
          ·rw [if_neg c20] at H
           have c20b0 : (a2 == ((rd_T48 l0 x11_1).f1)) = false := beq_eq_false_iff_ne.mpr c20
           have c20b1 : (a2 != ((rd_T48 l0 x11_1).f1)) = true := bne_iff_ne.mpr c20
           replace H := Option.bind_eq_some_iff.mp H
           obtain ⟨t190, A420, H⟩ := H
           replace H : (if ((rd_T48 l0 x11_1).f2) = 2 then (if ((rd_T48 l0 x11_1).f0) = a1 then (if t190 = true then (if x11_1 < (x10_1.length : Int) then (some ((x10_1.set (x11_1 : Int).toNat (⟨(rd_T48 x10_1 x11_1).f0, (rd_T48 x10_1 x11_1).f1, a3⟩ : S48)), true)) else (none)) else (spec_Reply.l0 kj8 l0 a1 a2 a3 x10_1 (wrap64 (x11_1 + 1)))) else (spec_Reply.l0 kj8 l0 a1 a2 a3 x10_1 (wrap64 (x11_1 + 1)))) else (if ((rd_T48 l0 x11_1).f0) = a1 then (if t190 = true then (if x11_1 < (x10_1.length : Int) then (some ((x10_1.set (x11_1 : Int).toNat (⟨(rd_T48 x10_1 x11_1).f0, (rd_T48 x10_1 x11_1).f1, a3⟩ : S48)), true)) else (none)) else (spec_Reply.l0 kj8 l0 a1 a2 a3 x10_1 (wrap64 (x11_1 + 1)))) else (spec_Reply.l0 kj8 l0 a1 a2 a3 x10_1 (wrap64 (x11_1 + 1))))) = some (r1, r2) := H
           have A42 := Aside0.mk A420
           clear A420
           by_cases c43 : ((rd_T48 l0 x11_1).f2) = 2
           ·rw [if_pos c43] at H
            have c43b0 : (((rd_T48 l0 x11_1).f2) == 2) = true := beq_iff_eq.mpr c43
            have c43b1 : (((rd_T48 l0 x11_1).f2) != 2) = false := bne_eq_false_iff_eq.mpr c43
            clear c43
            by_cases c44 : ((rd_T48 l0 x11_1).f0) = a1
            ·rw [if_pos c44] at H
             have c44b0 : (((rd_T48 l0 x11_1).f0) == a1) = true := beq_iff_eq.mpr c44
             have c44b1 : (((rd_T48 l0 x11_1).f0) != a1) = false := bne_eq_false_iff_eq.mpr c44
             clear c44
             by_cases c45 : t190 = true
             ·subst c45
              have H1 : (if x11_1 < (x10_1.length : Int) then (some ((x10_1.set (x11_1 : Int).toNat (⟨(rd_T48 x10_1 x11_1).f0, (rd_T48 x10_1 x11_1).f1, a3⟩ : S48)), true)) else (none)) = some (r1, r2) := by rw [if_pos rfl] at H; exact H
              clear H
              have H := H1
              clear H1
              by_cases c46 : x11_1 < (x10_1.length : Int)
              ·rw [if_pos c46] at H
               have c46b0 : decide (x11_1 < (x10_1.length : Int)) = true := decide_eq_true c46
               clear c46
               obtain ⟨y191, hy191⟩ : ∃ y_ : List (S48), y_ = (x10_1.set (x11_1 : Int).toNat (⟨(rd_T48 x10_1 x11_1).f0, (rd_T48 x10_1 x11_1).f1, a3⟩ : S48)) := ⟨_, rfl⟩
               replace H : (some (y191, true)) = some (r1, r2) := by first | (rw [hy191]; with_reducible exact H) | (have H2_ := (Option.bind_some _ _).symm.trans H; rw [hy191]; with_reducible exact H2_) | (have H2_ := (Option.bind_some _ _).symm.trans H; with_reducible exact H2_) | with_reducible exact H | (rw [hy191]; exact H) | exact H
               have Ny191 := Aside0.mk hy191
               clear hy191
               simp only [Option.some.injEq, Prod.mk.injEq] at H
               obtain ⟨rfl, rfl⟩ := H
               have p186 : 0 ≤ (x11_1 : Int) := of_decide_eq_true (by first | (with_reducible assumption) | assumption)
               have q186 : x11_1 < (l0.length : Int) := of_decide_eq_true (by first | (with_reducible assumption) | assumption)
               obtain ⟨ad186, e186, hx186_0, hx186_1, hx186_2⟩ := at_T48 HR0.out x11_1 p186 q186
               cases e186
               replace hx186_0 := (HB.out.cell (World.block_lt_of_cell? w _ hx186_0)).trans hx186_0
               replace hx186_1 := (HB.out.cell (World.block_lt_of_cell? w _ hx186_1)).trans hx186_1
               replace hx186_2 := (HB.out.cell (World.block_lt_of_cell? w _ hx186_2)).trans hx186_2
               replace p186 := eq_true p186
               replace q186 := eq_true q186
               go_wp2_with (first | ((with_reducible refine gate_dst (N := 12) rfl ?_); refine box_event ?hg (N := 12) ?hd (cs := #[.int .i64 0, .int .i64 0, .int .i64 0]) (t := 48) ?hr ?_; (case hd => rfl); (case hg => rfl); (case hr => first | (go_simp; done) | (go_simp; rfl)); intro gb187 hg w48 hbox hb; have n0_ := Aside0.mk (Kd.R_below (Kd.R_elderB (by (with_reducible repeat (first | apply Kd.R_alloc | apply Kd.R_drewN | apply Kd.R_drew)); exact HO_10.out) gb187 (Nat.le_of_eq hg.symm)) hb); have n1_ := Aside0.mk (below_step (by repeat (first | (with_reducible first | exact HB.out | apply below_alloc | apply pw_below_drewN | apply below_drew1) | exact HB.out)) hb); have n2_ := Aside0.mk (hbox); have n3_ := Aside0.mk ((by rw [hg]; exact (below_size (by repeat (first | (with_reducible first | exact HB.out | apply below_alloc | apply pw_below_drewN | apply below_drew1) | exact HB.out))) : w.heap.size ≤ gb187)); have n4_ := Aside0.mk ((by rw [hg]; exact (below_size (by repeat (first | (with_reducible first | exact HB.out | apply below_alloc | apply pw_below_drewN | apply below_drew1) | exact HB.out))) : w.heap.size ≤ gb187)); clear HO_10; clear HB; have HO_10 := n0_; have HB := n1_; have BK187 := n2_; have GW187 := n3_; have GE187 := n4_; clear n0_ n1_ n2_ n3_ n4_; clear hb hbox hg; have hcz49_0 : w48.cell? ⟨gb187, 0, none⟩ = some (.int .i64 0) := (blk_cell BK187.out 0).trans rfl; have hcz49_1 : w48.cell? ⟨gb187, 1, none⟩ = some (.int .i64 0) := (blk_cell BK187.out 1).trans rfl; have hcz49_2 : w48.cell? ⟨gb187, 2, none⟩ = some (.int .i64 0) := (blk_cell BK187.out 2).trans rfl; have hfz49_0 := blk_frozen BK187.out 0; have hfz49_1 := blk_frozen BK187.out 1; have hfz49_2 := blk_frozen BK187.out 2) | ((with_reducible refine gate_store (t := 48) (p := 12) rfl ?_); refine store_event (t := 48) (p := 12) (v := ?vo_w50) (w1 := (((w48.setCell ⟨gb187, 0, none⟩ (.int .i64 ((rd_T48 l0 x11_1).f0))).setCell ⟨gb187, 1, none⟩ (.int .i64 ((rd_T48 l0 x11_1).f1))).setCell ⟨gb187, 2, none⟩ (.int .i64 ((rd_T48 l0 x11_1).f2)))) ?hg ?ho ?hn ?hr ?_; (case ho => rfl); (case hg => rfl); (case hn => rfl); (case hr => first | (go_simp; done) | (go_simp; rfl)); intro w50 hw; have n0_ : Aside0 (Kd.R k48 48 w50 w.heap.size (fun k_ => k_ ≠ gb187) v182 x10_1) := ⟨(by rw [hw]; exact (by (with_reducible repeat (first | apply Kd.R_alloc | apply Kd.R_drewN | apply Kd.R_drew)); exact Kd.R_mono (Kd.R_far (p := ⟨gb187, 2, none⟩) (Kd.R_far (p := ⟨gb187, 1, none⟩) (Kd.R_far (p := ⟨gb187, 0, none⟩) (Kd.R_mono HO_10.out (fun k_ hk => (⟨hk, hk.2⟩ : _ ∧ k_ ≠ gb187))) (fun _ hk => hk.2) (.int .i64 ((rd_T48 l0 x11_1).f0))) (fun _ hk => hk.2) (.int .i64 ((rd_T48 l0 x11_1).f1))) (fun _ hk => hk.2) (.int .i64 ((rd_T48 l0 x11_1).f2))) (fun _ hk => hk.1.2)))⟩; have n1_ : Aside0 (w50.heap[gb187]? = some (.cells #[.int .i64 ((rd_T48 l0 x11_1).f0), .int .i64 ((rd_T48 l0 x11_1).f1), .int .i64 ((rd_T48 l0 x11_1).f2)] 48 (0, 0))) := ⟨(by rw [hw]; exact (by (with_reducible repeat (first | refine blk_drewN ?_ _ | refine blk_drew ?_ | refine blk_alloc ?_ _)); refine blk_put (cs := #[.int .i64 ((rd_T48 l0 x11_1).f0), .int .i64 ((rd_T48 l0 x11_1).f1), .int .i64 0]) ?_ 2 _ rfl; (with_reducible repeat (first | refine blk_drewN ?_ _ | refine blk_drew ?_ | refine blk_alloc ?_ _)); refine blk_put (cs := #[.int .i64 ((rd_T48 l0 x11_1).f0), .int .i64 0, .int .i64 0]) ?_ 1 _ rfl; (with_reducible repeat (first | refine blk_drewN ?_ _ | refine blk_drew ?_ | refine blk_alloc ?_ _)); refine blk_put (cs := #[.int .i64 0, .int .i64 0, .int .i64 0]) ?_ 0 _ rfl; (with_reducible repeat (first | refine blk_drewN ?_ _ | refine blk_drew ?_ | refine blk_alloc ?_ _)); exact BK187.out))⟩; have n2_ : Aside0 (Below w.heap.size w w50) := ⟨(by rw [hw]; exact (by repeat (first | (with_reducible first | exact HB.out | apply below_alloc | apply pw_below_drewN | apply below_drew1 | refine below_set ?_ GE187.out) | exact HB.out)))⟩; clear hw; clear HO_10; clear BK187; clear HB; have HO_10 := n0_; have BK187 := n1_; have HB := n2_; clear n0_ n1_ n2_; have hcz51_0 : w50.cell? ⟨gb187, 0, none⟩ = some (.int .i64 ((rd_T48 l0 x11_1).f0)) := (blk_cell BK187.out 0).trans rfl; have hcz51_1 : w50.cell? ⟨gb187, 1, none⟩ = some (.int .i64 ((rd_T48 l0 x11_1).f1)) := (blk_cell BK187.out 1).trans rfl; have hcz51_2 : w50.cell? ⟨gb187, 2, none⟩ = some (.int .i64 ((rd_T48 l0 x11_1).f2)) := (blk_cell BK187.out 2).trans rfl; have hfz51_0 := blk_frozen BK187.out 0; have hfz51_1 := blk_frozen BK187.out 1; have hfz51_2 := blk_frozen BK187.out 2) | (go_at_call 31; (with_reducible refine (spec_l1In.calls a3 1 2 true _ A42.out).mono ?_); rintro e w' ⟨rfl, ⟨nd, rfl⟩⟩; (try (rw [drewN_self w50]; generalize hq_ : World.drewN w50 _ = w50; have n0_ : Aside0 (Kd.R k48 48 w50 w.heap.size (fun k_ => k_ ≠ gb187) v182 x10_1) := ⟨by rw [← hq_]; exact (by (with_reducible repeat (first | apply Kd.R_alloc | apply Kd.R_drewN | apply Kd.R_drew)); exact HO_10.out)⟩; have n1_ : Aside0 (w50.heap[gb187]? = some (.cells #[.int .i64 ((rd_T48 l0 x11_1).f0), .int .i64 ((rd_T48 l0 x11_1).f1), .int .i64 ((rd_T48 l0 x11_1).f2)] 48 (0, 0))) := ⟨by rw [← hq_]; exact (by (with_reducible repeat (first | refine blk_drewN ?_ _ | refine blk_drew ?_ | refine blk_alloc ?_ _)); exact BK187.out)⟩; have n2_ : Aside0 (Below w.heap.size w w50) := ⟨by rw [← hq_]; exact (by repeat (first | (with_reducible first | exact HB.out | apply below_alloc | apply pw_below_drewN | apply below_drew1 | refine below_set ?_ GE187.out) | exact HB.out))⟩; clear HO_10 BK187 HB hq_; have HO_10 := n0_; have BK187 := n1_; have HB := n2_; clear n0_ n1_ n2_)); (try (have hcugb187_0 : w50.cell? ⟨gb187, 0, none⟩ = some (.int .i64 ((rd_T48 l0 x11_1).f0)) := (blk_cell BK187.out 0).trans rfl)); (try (have hfugb187_0 := blk_frozen BK187.out 0)); (try (have hcugb187_1 : w50.cell? ⟨gb187, 1, none⟩ = some (.int .i64 ((rd_T48 l0 x11_1).f1)) := (blk_cell BK187.out 1).trans rfl)); (try (have hfugb187_1 := blk_frozen BK187.out 1)); (try (have hcugb187_2 : w50.cell? ⟨gb187, 2, none⟩ = some (.int .i64 ((rd_T48 l0 x11_1).f2)) := (blk_cell BK187.out 2).trans rfl)); (try (have hfugb187_2 := blk_frozen BK187.out 2)); have p47 : 0 ≤ (x11_1 : Int) := of_decide_eq_true (by first | (with_reducible assumption) | assumption); have q47 : (x11_1 : Int) < ((x10_1.length : Int) : Int) := of_decide_eq_true (by first | (with_reducible assumption) | assumption); obtain ⟨go47, co47, eo47, gb47, gl47, cl47, HG47⟩ := Kd.R_form HO_10.out (by omega); (first | cases eo47 | (injection eo47 with ea_ en_ ec_; (first | subst ea_ | (injection ea_ with ea_; subst ea_)); subst ec_; clear en_)); have GB47 := Aside0.mk gb47; have GG47 := Aside0.mk HG47; clear gb47 gl47 HG47; obtain ⟨ce47, hcl47, hM47, hcc47, hfr47⟩ := Kd.R_elem HO_10.out z48 (x11_1 : Int) p47 q47; obtain rfl := k48_openM hM47; have hx47_0 : w50.cell? ⟨go47, (x11_1 : Int).toNat * 3, none⟩ = some (.int .i64 ((rd_T48 x10_1 x11_1).f0)) := hcc47 0 _ rfl; have hx47_1 : w50.cell? ⟨go47, (x11_1 : Int).toNat * 3 + 1, none⟩ = some (.int .i64 ((rd_T48 x10_1 x11_1).f1)) := hcc47 1 _ rfl; have hx47_2 : w50.cell? ⟨go47, (x11_1 : Int).toNat * 3 + 2, none⟩ = some (.int .i64 ((rd_T48 x10_1 x11_1).f2)) := hcc47 2 _ rfl; have hf47_0 : w50.frozen? ⟨go47, (x11_1 : Int).toNat * 3, none⟩ = false := hfr47 0; have hf47_1 : w50.frozen? ⟨go47, (x11_1 : Int).toNat * 3 + 1, none⟩ = false := hfr47 1; have hf47_2 : w50.frozen? ⟨go47, (x11_1 : Int).toNat * 3 + 2, none⟩ = false := hfr47 2; (try clear hM47); clear hcl47 hcc47 hfr47; replace p47 := eq_true p47; replace q47 := eq_true q47; have HX52 := Aside0.mk (show Kd.R k48 48 w50 w.heap.size (fun k_ => k_ ≠ gb187) (.slice (some ⟨go47, 0, none⟩) x10_1.length co47) x10_1 from (by (with_reducible repeat (first | apply Kd.R_alloc | apply Kd.R_drewN | apply Kd.R_drew)); exact HO_10.out)); obtain ⟨ce52, hcl52, hM52, hcc52, hfr52⟩ := Kd.R_elem HX52.out z48 (x11_1 : Int) (of_decide_eq_true (by first | (with_reducible assumption) | assumption)) (by have h_ : (x11_1 : Int) < ((x10_1.length : Int) : Int) := of_decide_eq_true (by first | (with_reducible assumption) | assumption); first | exact h_ | (have e_ := (Kd.R_reads' HO_10.out).1; omega) | simpa using h_); obtain rfl := k48_openM hM52; have HP52 := Kd.R_seg HX52.out (x11_1 : Int) (of_decide_eq_true (by first | (with_reducible assumption) | assumption)) (by have h_ : (x11_1 : Int) < ((x10_1.length : Int) : Int) := of_decide_eq_true (by first | (with_reducible assumption) | assumption); first | exact h_ | (have e_ := (Kd.R_reads' HO_10.out).1; omega) | simpa using h_) (seg := [.int .i64 a3]) (j := 2) hcl52 hcc52 (show 3 ≤ 3 from by decide) (x' := (⟨(rd_T48 x10_1 x11_1).f0, (rd_T48 x10_1 x11_1).f1, a3⟩ : S48)) (k48_mkM _ _ _ (⟨(rd_T48 x10_1 x11_1).f0, (rd_T48 x10_1 x11_1).f1, a3⟩ : S48) ) (fun _ hk => hk); have hx52_2 := hcc52 2 _ rfl; (try simp only [show (k48).sz = 3 from rfl, Nat.mul_one, Nat.add_zero] at hx52_2); have hf52_2 := hfr52 2; (try simp only [show (k48).sz = 3 from rfl, Nat.mul_one, Nat.add_zero] at hf52_2); (try clear hM52); clear hcl52 hcc52 hfr52) | ((with_reducible refine gate_store (t := 3) (p := 76) rfl ?_); refine store_event (t := 3) (p := 76) (v := ?vo_w53) (w1 := (w50.setCell ⟨go47, (x11_1 : Int).toNat * 3 + 2, none⟩ (.int .i64 a3))) ?hg ?ho ?hn ?hr ?_; (case ho => rfl); (case hg => rfl); (case hn => rfl); (case hr => first | (go_simp; done) | (go_simp; rfl)); intro w53 hw; have hg : w50.grownBy w53 (some go47) := (by rw [hw]; exact HP52.2); have hp_ : Kd.R k48 48 w53 w.heap.size (fun k_ => k_ ≠ gb187) (.slice (some ⟨go47, 0, none⟩) x10_1.length co47) y191 := (by rw [hw, Ny191.out]; exact HP52.1); clear HP52; have n0_ := Aside0.mk (hp_); have n1_ := Aside0.mk (blk_grown (g := gb187) (o := .cells #[.int .i64 ((rd_T48 l0 x11_1).f0), .int .i64 ((rd_T48 l0 x11_1).f1), .int .i64 ((rd_T48 l0 x11_1).f2)] 48 (0, 0)) (by (with_reducible repeat (first | refine blk_drewN ?_ _ | refine blk_drew ?_ | refine blk_alloc ?_ _)); exact BK187.out) hg (Kd.R_away HO_10.out (fun _ hk => hk))); have n2_ := Aside0.mk ((by rw [hw]; exact below_set (HB.out) GB47.out : Below w.heap.size w w53)); clear HO_10; clear BK187; clear HB; have HO_10 := n0_; have BK187 := n1_; have HB := n2_; clear n0_ n1_ n2_; clear hg hw hp_))
               go_ret2
               exact ⟨_, by first | rfl | (simp [errW_none, errW_some] <;> rfl) | (simp [*, errW_none, errW_some] <;> rfl), by (with_reducible repeat (first | apply Kd.R_alloc | apply Kd.R_drewN | apply Kd.R_drew)); exact Kd.R_mono HO_10.out (fun _ hk => trivial), by repeat (first | (with_reducible first | exact HB.out | apply below_alloc | apply pw_below_drewN | apply below_drew1 | refine below_set ?_ GE187.out) | exact HB.out)⟩
              ·rw [if_neg c46] at H
               exact absurd H (by simp)
             ·replace c45 := Bool.eq_false_iff.mpr c45
              subst c45
              have H1 : (spec_Reply.l0 kj8 l0 a1 a2 a3 x10_1 (wrap64 (x11_1 + 1))) = some (r1, r2) := by rw [if_neg (show ¬ (false = true) by decide)] at H; exact H
              clear H
              have H := H1
              clear H1
              have H' := Aside0.mk H
              clear H
              have p186 : 0 ≤ (x11_1 : Int) := of_decide_eq_true (by first | (with_reducible assumption) | assumption)
              have q186 : x11_1 < (l0.length : Int) := of_decide_eq_true (by first | (with_reducible assumption) | assumption)
              obtain ⟨ad186, e186, hx186_0, hx186_1, hx186_2⟩ := at_T48 HR0.out x11_1 p186 q186
              cases e186
              replace hx186_0 := (HB.out.cell (World.block_lt_of_cell? w _ hx186_0)).trans hx186_0
              replace hx186_1 := (HB.out.cell (World.block_lt_of_cell? w _ hx186_1)).trans hx186_1
              replace hx186_2 := (HB.out.cell (World.block_lt_of_cell? w _ hx186_2)).trans hx186_2
              replace p186 := eq_true p186
              replace q186 := eq_true q186
              go_wp2_with (first | ((with_reducible refine gate_dst (N := 12) rfl ?_); refine box_event ?hg (N := 12) ?hd (cs := #[.int .i64 0, .int .i64 0, .int .i64 0]) (t := 48) ?hr ?_; (case hd => rfl); (case hg => rfl); (case hr => first | (go_simp; done) | (go_simp; rfl)); intro gb187 hg w54 hbox hb; have n0_ := Aside0.mk (Kd.R_below (Kd.R_elderB (by (with_reducible repeat (first | apply Kd.R_alloc | apply Kd.R_drewN | apply Kd.R_drew)); exact HO_10.out) gb187 (Nat.le_of_eq hg.symm)) hb); have n1_ := Aside0.mk (below_step (by repeat (first | (with_reducible first | exact HB.out | apply below_alloc | apply pw_below_drewN | apply below_drew1) | exact HB.out)) hb); have n2_ := Aside0.mk (hbox); have n3_ := Aside0.mk ((by rw [hg]; exact (below_size (by repeat (first | (with_reducible first | exact HB.out | apply below_alloc | apply pw_below_drewN | apply below_drew1) | exact HB.out))) : w.heap.size ≤ gb187)); have n4_ := Aside0.mk ((by rw [hg]; exact (below_size (by repeat (first | (with_reducible first | exact HB.out | apply below_alloc | apply pw_below_drewN | apply below_drew1) | exact HB.out))) : w.heap.size ≤ gb187)); clear HO_10; clear HB; have HO_10 := n0_; have HB := n1_; have BK187 := n2_; have GW187 := n3_; have GE187 := n4_; clear n0_ n1_ n2_ n3_ n4_; clear hb hbox hg; have hcz55_0 : w54.cell? ⟨gb187, 0, none⟩ = some (.int .i64 0) := (blk_cell BK187.out 0).trans rfl; have hcz55_1 : w54.cell? ⟨gb187, 1, none⟩ = some (.int .i64 0) := (blk_cell BK187.out 1).trans rfl; have hcz55_2 : w54.cell? ⟨gb187, 2, none⟩ = some (.int .i64 0) := (blk_cell BK187.out 2).trans rfl; have hfz55_0 := blk_frozen BK187.out 0; have hfz55_1 := blk_frozen BK187.out 1; have hfz55_2 := blk_frozen BK187.out 2) | (go_at_call 31; (with_reducible refine (spec_l1In.calls a3 1 2 false _ A42.out).mono ?_); rintro e w' ⟨rfl, ⟨nd, rfl⟩⟩))
              go_roundg kj8
              case measure => have := HK1.out; have := HJ8.out; omega
              case rel => exact ⟨(x10_1), (wrap64 (x11_1 + 1)), (by first | rfl | (simp; done) | (simp [*]; done)), H', ⟨by have := HK1.out; have := HJ8.out; omega⟩, ⟨by (with_reducible repeat (first | apply Kd.R_alloc | apply Kd.R_drewN | apply Kd.R_drew)); exact Kd.R_mono (Kd.R_far (p := ⟨gb187, 2, none⟩) (Kd.R_far (p := ⟨gb187, 1, none⟩) (Kd.R_far (p := ⟨gb187, 0, none⟩) (Kd.R_mono HO_10.out (fun k_ hk => (⟨hk, hk.2⟩ : _ ∧ k_ ≠ gb187))) (fun _ hk => hk.2) (.int .i64 ((rd_T48 l0 x11_1).f0))) (fun _ hk => hk.2) (.int .i64 ((rd_T48 l0 x11_1).f1))) (fun _ hk => hk.2) (.int .i64 ((rd_T48 l0 x11_1).f2))) (fun _ hk => trivial)⟩, ⟨by repeat (first | (with_reducible first | exact HB.out | apply below_alloc | apply pw_below_drewN | apply below_drew1 | refine below_set ?_ GE187.out) | exact HB.out)⟩⟩
            ·rw [if_neg c44] at H
             have c44b0 : (((rd_T48 l0 x11_1).f0) == a1) = false := beq_eq_false_iff_ne.mpr c44
             have c44b1 : (((rd_T48 l0 x11_1).f0) != a1) = true := bne_iff_ne.mpr c44
             have H' := Aside0.mk H
             clear H
             have p186 : 0 ≤ (x11_1 : Int) := of_decide_eq_true (by first | (with_reducible assumption) | assumption)
             have q186 : x11_1 < (l0.length : Int) := of_decide_eq_true (by first | (with_reducible assumption) | assumption)
             obtain ⟨ad186, e186, hx186_0, hx186_1, hx186_2⟩ := at_T48 HR0.out x11_1 p186 q186
             cases e186
             replace hx186_0 := (HB.out.cell (World.block_lt_of_cell? w _ hx186_0)).trans hx186_0
             replace hx186_1 := (HB.out.cell (World.block_lt_of_cell? w _ hx186_1)).trans hx186_1
             replace hx186_2 := (HB.out.cell (World.block_lt_of_cell? w _ hx186_2)).trans hx186_2
             replace p186 := eq_true p186
             replace q186 := eq_true q186
             go_wp2_with (first | ((with_reducible refine gate_dst (N := 12) rfl ?_); refine box_event ?hg (N := 12) ?hd (cs := #[.int .i64 0, .int .i64 0, .int .i64 0]) (t := 48) ?hr ?_; (case hd => rfl); (case hg => rfl); (case hr => first | (go_simp; done) | (go_simp; rfl)); intro gb187 hg w56 hbox hb; have n0_ := Aside0.mk (Kd.R_below (Kd.R_elderB (by (with_reducible repeat (first | apply Kd.R_alloc | apply Kd.R_drewN | apply Kd.R_drew)); exact HO_10.out) gb187 (Nat.le_of_eq hg.symm)) hb); have n1_ := Aside0.mk (below_step (by repeat (first | (with_reducible first | exact HB.out | apply below_alloc | apply pw_below_drewN | apply below_drew1) | exact HB.out)) hb); have n2_ := Aside0.mk (hbox); have n3_ := Aside0.mk ((by rw [hg]; exact (below_size (by repeat (first | (with_reducible first | exact HB.out | apply below_alloc | apply pw_below_drewN | apply below_drew1) | exact HB.out))) : w.heap.size ≤ gb187)); have n4_ := Aside0.mk ((by rw [hg]; exact (below_size (by repeat (first | (with_reducible first | exact HB.out | apply below_alloc | apply pw_below_drewN | apply below_drew1) | exact HB.out))) : w.heap.size ≤ gb187)); clear HO_10; clear HB; have HO_10 := n0_; have HB := n1_; have BK187 := n2_; have GW187 := n3_; have GE187 := n4_; clear n0_ n1_ n2_ n3_ n4_; clear hb hbox hg; have hcz57_0 : w56.cell? ⟨gb187, 0, none⟩ = some (.int .i64 0) := (blk_cell BK187.out 0).trans rfl; have hcz57_1 : w56.cell? ⟨gb187, 1, none⟩ = some (.int .i64 0) := (blk_cell BK187.out 1).trans rfl; have hcz57_2 : w56.cell? ⟨gb187, 2, none⟩ = some (.int .i64 0) := (blk_cell BK187.out 2).trans rfl; have hfz57_0 := blk_frozen BK187.out 0; have hfz57_1 := blk_frozen BK187.out 1; have hfz57_2 := blk_frozen BK187.out 2) | (go_at_call 31; (with_reducible refine (spec_l1In.calls a3 1 2 t190 _ A42.out).mono ?_); rintro e w' ⟨rfl, ⟨nd, rfl⟩⟩))
             go_roundg kj8
             case measure => have := HK1.out; have := HJ8.out; omega
             case rel => exact ⟨(x10_1), (wrap64 (x11_1 + 1)), (by first | rfl | (simp; done) | (simp [*]; done)), H', ⟨by have := HK1.out; have := HJ8.out; omega⟩, ⟨by (with_reducible repeat (first | apply Kd.R_alloc | apply Kd.R_drewN | apply Kd.R_drew)); exact Kd.R_mono (Kd.R_far (p := ⟨gb187, 2, none⟩) (Kd.R_far (p := ⟨gb187, 1, none⟩) (Kd.R_far (p := ⟨gb187, 0, none⟩) (Kd.R_mono HO_10.out (fun k_ hk => (⟨hk, hk.2⟩ : _ ∧ k_ ≠ gb187))) (fun _ hk => hk.2) (.int .i64 ((rd_T48 l0 x11_1).f0))) (fun _ hk => hk.2) (.int .i64 ((rd_T48 l0 x11_1).f1))) (fun _ hk => hk.2) (.int .i64 ((rd_T48 l0 x11_1).f2))) (fun _ hk => trivial)⟩, ⟨by repeat (first | (with_reducible first | exact HB.out | apply below_alloc | apply pw_below_drewN | apply below_drew1 | refine below_set ?_ GE187.out) | exact HB.out)⟩⟩
           ·rw [if_neg c43] at H
            have c43b0 : (((rd_T48 l0 x11_1).f2) == 2) = false := beq_eq_false_iff_ne.mpr c43
            have c43b1 : (((rd_T48 l0 x11_1).f2) != 2) = true := bne_iff_ne.mpr c43
            by_cases c58 : ((rd_T48 l0 x11_1).f0) = a1
            ·rw [if_pos c58] at H
             have c58b0 : (((rd_T48 l0 x11_1).f0) == a1) = true := beq_iff_eq.mpr c58
             have c58b1 : (((rd_T48 l0 x11_1).f0) != a1) = false := bne_eq_false_iff_eq.mpr c58
             clear c58
             by_cases c59 : t190 = true
             ·subst c59
              have H1 : (if x11_1 < (x10_1.length : Int) then (some ((x10_1.set (x11_1 : Int).toNat (⟨(rd_T48 x10_1 x11_1).f0, (rd_T48 x10_1 x11_1).f1, a3⟩ : S48)), true)) else (none)) = some (r1, r2) := by rw [if_pos rfl] at H; exact H
              clear H
              have H := H1
              clear H1
              by_cases c60 : x11_1 < (x10_1.length : Int)
              ·rw [if_pos c60] at H
               have c60b0 : decide (x11_1 < (x10_1.length : Int)) = true := decide_eq_true c60
               clear c60
               obtain ⟨y192, hy192⟩ : ∃ y_ : List (S48), y_ = (x10_1.set (x11_1 : Int).toNat (⟨(rd_T48 x10_1 x11_1).f0, (rd_T48 x10_1 x11_1).f1, a3⟩ : S48)) := ⟨_, rfl⟩
               replace H : (some (y192, true)) = some (r1, r2) := by first | (rw [hy192]; with_reducible exact H) | (have H2_ := (Option.bind_some _ _).symm.trans H; rw [hy192]; with_reducible exact H2_) | (have H2_ := (Option.bind_some _ _).symm.trans H; with_reducible exact H2_) | with_reducible exact H | (rw [hy192]; exact H) | exact H
               have Ny192 := Aside0.mk hy192
               clear hy192
               simp only [Option.some.injEq, Prod.mk.injEq] at H
               obtain ⟨rfl, rfl⟩ := H
               have p186 : 0 ≤ (x11_1 : Int) := of_decide_eq_true (by first | (with_reducible assumption) | assumption)
               have q186 : x11_1 < (l0.length : Int) := of_decide_eq_true (by first | (with_reducible assumption) | assumption)
               obtain ⟨ad186, e186, hx186_0, hx186_1, hx186_2⟩ := at_T48 HR0.out x11_1 p186 q186
               cases e186
               replace hx186_0 := (HB.out.cell (World.block_lt_of_cell? w _ hx186_0)).trans hx186_0
               replace hx186_1 := (HB.out.cell (World.block_lt_of_cell? w _ hx186_1)).trans hx186_1
               replace hx186_2 := (HB.out.cell (World.block_lt_of_cell? w _ hx186_2)).trans hx186_2
               replace p186 := eq_true p186
               replace q186 := eq_true q186
               go_wp2_with (first | ((with_reducible refine gate_dst (N := 12) rfl ?_); refine box_event ?hg (N := 12) ?hd (cs := #[.int .i64 0, .int .i64 0, .int .i64 0]) (t := 48) ?hr ?_; (case hd => rfl); (case hg => rfl); (case hr => first | (go_simp; done) | (go_simp; rfl)); intro gb187 hg w62 hbox hb; have n0_ := Aside0.mk (Kd.R_below (Kd.R_elderB (by (with_reducible repeat (first | apply Kd.R_alloc | apply Kd.R_drewN | apply Kd.R_drew)); exact HO_10.out) gb187 (Nat.le_of_eq hg.symm)) hb); have n1_ := Aside0.mk (below_step (by repeat (first | (with_reducible first | exact HB.out | apply below_alloc | apply pw_below_drewN | apply below_drew1) | exact HB.out)) hb); have n2_ := Aside0.mk (hbox); have n3_ := Aside0.mk ((by rw [hg]; exact (below_size (by repeat (first | (with_reducible first | exact HB.out | apply below_alloc | apply pw_below_drewN | apply below_drew1) | exact HB.out))) : w.heap.size ≤ gb187)); have n4_ := Aside0.mk ((by rw [hg]; exact (below_size (by repeat (first | (with_reducible first | exact HB.out | apply below_alloc | apply pw_below_drewN | apply below_drew1) | exact HB.out))) : w.heap.size ≤ gb187)); clear HO_10; clear HB; have HO_10 := n0_; have HB := n1_; have BK187 := n2_; have GW187 := n3_; have GE187 := n4_; clear n0_ n1_ n2_ n3_ n4_; clear hb hbox hg; have hcz63_0 : w62.cell? ⟨gb187, 0, none⟩ = some (.int .i64 0) := (blk_cell BK187.out 0).trans rfl; have hcz63_1 : w62.cell? ⟨gb187, 1, none⟩ = some (.int .i64 0) := (blk_cell BK187.out 1).trans rfl; have hcz63_2 : w62.cell? ⟨gb187, 2, none⟩ = some (.int .i64 0) := (blk_cell BK187.out 2).trans rfl; have hfz63_0 := blk_frozen BK187.out 0; have hfz63_1 := blk_frozen BK187.out 1; have hfz63_2 := blk_frozen BK187.out 2) | ((with_reducible refine gate_store (t := 48) (p := 12) rfl ?_); refine store_event (t := 48) (p := 12) (v := ?vo_w64) (w1 := (((w62.setCell ⟨gb187, 0, none⟩ (.int .i64 ((rd_T48 l0 x11_1).f0))).setCell ⟨gb187, 1, none⟩ (.int .i64 ((rd_T48 l0 x11_1).f1))).setCell ⟨gb187, 2, none⟩ (.int .i64 ((rd_T48 l0 x11_1).f2)))) ?hg ?ho ?hn ?hr ?_; (case ho => rfl); (case hg => rfl); (case hn => rfl); (case hr => first | (go_simp; done) | (go_simp; rfl)); intro w64 hw; have n0_ : Aside0 (Kd.R k48 48 w64 w.heap.size (fun k_ => k_ ≠ gb187) v182 x10_1) := ⟨(by rw [hw]; exact (by (with_reducible repeat (first | apply Kd.R_alloc | apply Kd.R_drewN | apply Kd.R_drew)); exact Kd.R_mono (Kd.R_far (p := ⟨gb187, 2, none⟩) (Kd.R_far (p := ⟨gb187, 1, none⟩) (Kd.R_far (p := ⟨gb187, 0, none⟩) (Kd.R_mono HO_10.out (fun k_ hk => (⟨hk, hk.2⟩ : _ ∧ k_ ≠ gb187))) (fun _ hk => hk.2) (.int .i64 ((rd_T48 l0 x11_1).f0))) (fun _ hk => hk.2) (.int .i64 ((rd_T48 l0 x11_1).f1))) (fun _ hk => hk.2) (.int .i64 ((rd_T48 l0 x11_1).f2))) (fun _ hk => hk.1.2)))⟩; have n1_ : Aside0 (w64.heap[gb187]? = some (.cells #[.int .i64 ((rd_T48 l0 x11_1).f0), .int .i64 ((rd_T48 l0 x11_1).f1), .int .i64 ((rd_T48 l0 x11_1).f2)] 48 (0, 0))) := ⟨(by rw [hw]; exact (by (with_reducible repeat (first | refine blk_drewN ?_ _ | refine blk_drew ?_ | refine blk_alloc ?_ _)); refine blk_put (cs := #[.int .i64 ((rd_T48 l0 x11_1).f0), .int .i64 ((rd_T48 l0 x11_1).f1), .int .i64 0]) ?_ 2 _ rfl; (with_reducible repeat (first | refine blk_drewN ?_ _ | refine blk_drew ?_ | refine blk_alloc ?_ _)); refine blk_put (cs := #[.int .i64 ((rd_T48 l0 x11_1).f0), .int .i64 0, .int .i64 0]) ?_ 1 _ rfl; (with_reducible repeat (first | refine blk_drewN ?_ _ | refine blk_drew ?_ | refine blk_alloc ?_ _)); refine blk_put (cs := #[.int .i64 0, .int .i64 0, .int .i64 0]) ?_ 0 _ rfl; (with_reducible repeat (first | refine blk_drewN ?_ _ | refine blk_drew ?_ | refine blk_alloc ?_ _)); exact BK187.out))⟩; have n2_ : Aside0 (Below w.heap.size w w64) := ⟨(by rw [hw]; exact (by repeat (first | (with_reducible first | exact HB.out | apply below_alloc | apply pw_below_drewN | apply below_drew1 | refine below_set ?_ GE187.out) | exact HB.out)))⟩; clear hw; clear HO_10; clear BK187; clear HB; have HO_10 := n0_; have BK187 := n1_; have HB := n2_; clear n0_ n1_ n2_; have hcz65_0 : w64.cell? ⟨gb187, 0, none⟩ = some (.int .i64 ((rd_T48 l0 x11_1).f0)) := (blk_cell BK187.out 0).trans rfl; have hcz65_1 : w64.cell? ⟨gb187, 1, none⟩ = some (.int .i64 ((rd_T48 l0 x11_1).f1)) := (blk_cell BK187.out 1).trans rfl; have hcz65_2 : w64.cell? ⟨gb187, 2, none⟩ = some (.int .i64 ((rd_T48 l0 x11_1).f2)) := (blk_cell BK187.out 2).trans rfl; have hfz65_0 := blk_frozen BK187.out 0; have hfz65_1 := blk_frozen BK187.out 1; have hfz65_2 := blk_frozen BK187.out 2) | (go_at_call 31; (with_reducible refine (spec_l1In.calls a3 1 2 true _ A42.out).mono ?_); rintro e w' ⟨rfl, ⟨nd, rfl⟩⟩; (try (rw [drewN_self w64]; generalize hq_ : World.drewN w64 _ = w64; have n0_ : Aside0 (Kd.R k48 48 w64 w.heap.size (fun k_ => k_ ≠ gb187) v182 x10_1) := ⟨by rw [← hq_]; exact (by (with_reducible repeat (first | apply Kd.R_alloc | apply Kd.R_drewN | apply Kd.R_drew)); exact HO_10.out)⟩; have n1_ : Aside0 (w64.heap[gb187]? = some (.cells #[.int .i64 ((rd_T48 l0 x11_1).f0), .int .i64 ((rd_T48 l0 x11_1).f1), .int .i64 ((rd_T48 l0 x11_1).f2)] 48 (0, 0))) := ⟨by rw [← hq_]; exact (by (with_reducible repeat (first | refine blk_drewN ?_ _ | refine blk_drew ?_ | refine blk_alloc ?_ _)); exact BK187.out)⟩; have n2_ : Aside0 (Below w.heap.size w w64) := ⟨by rw [← hq_]; exact (by repeat (first | (with_reducible first | exact HB.out | apply below_alloc | apply pw_below_drewN | apply below_drew1 | refine below_set ?_ GE187.out) | exact HB.out))⟩; clear HO_10 BK187 HB hq_; have HO_10 := n0_; have BK187 := n1_; have HB := n2_; clear n0_ n1_ n2_)); (try (have hcugb187_0 : w64.cell? ⟨gb187, 0, none⟩ = some (.int .i64 ((rd_T48 l0 x11_1).f0)) := (blk_cell BK187.out 0).trans rfl)); (try (have hfugb187_0 := blk_frozen BK187.out 0)); (try (have hcugb187_1 : w64.cell? ⟨gb187, 1, none⟩ = some (.int .i64 ((rd_T48 l0 x11_1).f1)) := (blk_cell BK187.out 1).trans rfl)); (try (have hfugb187_1 := blk_frozen BK187.out 1)); (try (have hcugb187_2 : w64.cell? ⟨gb187, 2, none⟩ = some (.int .i64 ((rd_T48 l0 x11_1).f2)) := (blk_cell BK187.out 2).trans rfl)); (try (have hfugb187_2 := blk_frozen BK187.out 2)); have p61 : 0 ≤ (x11_1 : Int) := of_decide_eq_true (by first | (with_reducible assumption) | assumption); have q61 : (x11_1 : Int) < ((x10_1.length : Int) : Int) := of_decide_eq_true (by first | (with_reducible assumption) | assumption); obtain ⟨go61, co61, eo61, gb61, gl61, cl61, HG61⟩ := Kd.R_form HO_10.out (by omega); (first | cases eo61 | (injection eo61 with ea_ en_ ec_; (first | subst ea_ | (injection ea_ with ea_; subst ea_)); subst ec_; clear en_)); have GB61 := Aside0.mk gb61; have GG61 := Aside0.mk HG61; clear gb61 gl61 HG61; obtain ⟨ce61, hcl61, hM61, hcc61, hfr61⟩ := Kd.R_elem HO_10.out z48 (x11_1 : Int) p61 q61; obtain rfl := k48_openM hM61; have hx61_0 : w64.cell? ⟨go61, (x11_1 : Int).toNat * 3, none⟩ = some (.int .i64 ((rd_T48 x10_1 x11_1).f0)) := hcc61 0 _ rfl; have hx61_1 : w64.cell? ⟨go61, (x11_1 : Int).toNat * 3 + 1, none⟩ = some (.int .i64 ((rd_T48 x10_1 x11_1).f1)) := hcc61 1 _ rfl; have hx61_2 : w64.cell? ⟨go61, (x11_1 : Int).toNat * 3 + 2, none⟩ = some (.int .i64 ((rd_T48 x10_1 x11_1).f2)) := hcc61 2 _ rfl; have hf61_0 : w64.frozen? ⟨go61, (x11_1 : Int).toNat * 3, none⟩ = false := hfr61 0; have hf61_1 : w64.frozen? ⟨go61, (x11_1 : Int).toNat * 3 + 1, none⟩ = false := hfr61 1; have hf61_2 : w64.frozen? ⟨go61, (x11_1 : Int).toNat * 3 + 2, none⟩ = false := hfr61 2; (try clear hM61); clear hcl61 hcc61 hfr61; replace p61 := eq_true p61; replace q61 := eq_true q61; have HX66 := Aside0.mk (show Kd.R k48 48 w64 w.heap.size (fun k_ => k_ ≠ gb187) (.slice (some ⟨go61, 0, none⟩) x10_1.length co61) x10_1 from (by (with_reducible repeat (first | apply Kd.R_alloc | apply Kd.R_drewN | apply Kd.R_drew)); exact HO_10.out)); obtain ⟨ce66, hcl66, hM66, hcc66, hfr66⟩ := Kd.R_elem HX66.out z48 (x11_1 : Int) (of_decide_eq_true (by first | (with_reducible assumption) | assumption)) (by have h_ : (x11_1 : Int) < ((x10_1.length : Int) : Int) := of_decide_eq_true (by first | (with_reducible assumption) | assumption); first | exact h_ | (have e_ := (Kd.R_reads' HO_10.out).1; omega) | simpa using h_); obtain rfl := k48_openM hM66; have HP66 := Kd.R_seg HX66.out (x11_1 : Int) (of_decide_eq_true (by first | (with_reducible assumption) | assumption)) (by have h_ : (x11_1 : Int) < ((x10_1.length : Int) : Int) := of_decide_eq_true (by first | (with_reducible assumption) | assumption); first | exact h_ | (have e_ := (Kd.R_reads' HO_10.out).1; omega) | simpa using h_) (seg := [.int .i64 a3]) (j := 2) hcl66 hcc66 (show 3 ≤ 3 from by decide) (x' := (⟨(rd_T48 x10_1 x11_1).f0, (rd_T48 x10_1 x11_1).f1, a3⟩ : S48)) (k48_mkM _ _ _ (⟨(rd_T48 x10_1 x11_1).f0, (rd_T48 x10_1 x11_1).f1, a3⟩ : S48) ) (fun _ hk => hk); have hx66_2 := hcc66 2 _ rfl; (try simp only [show (k48).sz = 3 from rfl, Nat.mul_one, Nat.add_zero] at hx66_2); have hf66_2 := hfr66 2; (try simp only [show (k48).sz = 3 from rfl, Nat.mul_one, Nat.add_zero] at hf66_2); (try clear hM66); clear hcl66 hcc66 hfr66) | ((with_reducible refine gate_store (t := 3) (p := 76) rfl ?_); refine store_event (t := 3) (p := 76) (v := ?vo_w67) (w1 := (w64.setCell ⟨go61, (x11_1 : Int).toNat * 3 + 2, none⟩ (.int .i64 a3))) ?hg ?ho ?hn ?hr ?_; (case ho => rfl); (case hg => rfl); (case hn => rfl); (case hr => first | (go_simp; done) | (go_simp; rfl)); intro w67 hw; have hg : w64.grownBy w67 (some go61) := (by rw [hw]; exact HP66.2); have hp_ : Kd.R k48 48 w67 w.heap.size (fun k_ => k_ ≠ gb187) (.slice (some ⟨go61, 0, none⟩) x10_1.length co61) y192 := (by rw [hw, Ny192.out]; exact HP66.1); clear HP66; have n0_ := Aside0.mk (hp_); have n1_ := Aside0.mk (blk_grown (g := gb187) (o := .cells #[.int .i64 ((rd_T48 l0 x11_1).f0), .int .i64 ((rd_T48 l0 x11_1).f1), .int .i64 ((rd_T48 l0 x11_1).f2)] 48 (0, 0)) (by (with_reducible repeat (first | refine blk_drewN ?_ _ | refine blk_drew ?_ | refine blk_alloc ?_ _)); exact BK187.out) hg (Kd.R_away HO_10.out (fun _ hk => hk))); have n2_ := Aside0.mk ((by rw [hw]; exact below_set (HB.out) GB61.out : Below w.heap.size w w67)); clear HO_10; clear BK187; clear HB; have HO_10 := n0_; have BK187 := n1_; have HB := n2_; clear n0_ n1_ n2_; clear hg hw hp_))
               go_ret2
               exact ⟨_, by first | rfl | (simp [errW_none, errW_some] <;> rfl) | (simp [*, errW_none, errW_some] <;> rfl), by (with_reducible repeat (first | apply Kd.R_alloc | apply Kd.R_drewN | apply Kd.R_drew)); exact Kd.R_mono HO_10.out (fun _ hk => trivial), by repeat (first | (with_reducible first | exact HB.out | apply below_alloc | apply pw_below_drewN | apply below_drew1 | refine below_set ?_ GE187.out) | exact HB.out)⟩
              ·rw [if_neg c60] at H
               exact absurd H (by simp)
             ·replace c59 := Bool.eq_false_iff.mpr c59
              subst c59
              have H1 : (spec_Reply.l0 kj8 l0 a1 a2 a3 x10_1 (wrap64 (x11_1 + 1))) = some (r1, r2) := by rw [if_neg (show ¬ (false = true) by decide)] at H; exact H
              clear H
              have H := H1
              clear H1
              have H' := Aside0.mk H
              clear H
              have p186 : 0 ≤ (x11_1 : Int) := of_decide_eq_true (by first | (with_reducible assumption) | assumption)
              have q186 : x11_1 < (l0.length : Int) := of_decide_eq_true (by first | (with_reducible assumption) | assumption)
              obtain ⟨ad186, e186, hx186_0, hx186_1, hx186_2⟩ := at_T48 HR0.out x11_1 p186 q186
              cases e186
              replace hx186_0 := (HB.out.cell (World.block_lt_of_cell? w _ hx186_0)).trans hx186_0
              replace hx186_1 := (HB.out.cell (World.block_lt_of_cell? w _ hx186_1)).trans hx186_1
              replace hx186_2 := (HB.out.cell (World.block_lt_of_cell? w _ hx186_2)).trans hx186_2
              replace p186 := eq_true p186
              replace q186 := eq_true q186
              go_wp2_with (first | ((with_reducible refine gate_dst (N := 12) rfl ?_); refine box_event ?hg (N := 12) ?hd (cs := #[.int .i64 0, .int .i64 0, .int .i64 0]) (t := 48) ?hr ?_; (case hd => rfl); (case hg => rfl); (case hr => first | (go_simp; done) | (go_simp; rfl)); intro gb187 hg w68 hbox hb; have n0_ := Aside0.mk (Kd.R_below (Kd.R_elderB (by (with_reducible repeat (first | apply Kd.R_alloc | apply Kd.R_drewN | apply Kd.R_drew)); exact HO_10.out) gb187 (Nat.le_of_eq hg.symm)) hb); have n1_ := Aside0.mk (below_step (by repeat (first | (with_reducible first | exact HB.out | apply below_alloc | apply pw_below_drewN | apply below_drew1) | exact HB.out)) hb); have n2_ := Aside0.mk (hbox); have n3_ := Aside0.mk ((by rw [hg]; exact (below_size (by repeat (first | (with_reducible first | exact HB.out | apply below_alloc | apply pw_below_drewN | apply below_drew1) | exact HB.out))) : w.heap.size ≤ gb187)); have n4_ := Aside0.mk ((by rw [hg]; exact (below_size (by repeat (first | (with_reducible first | exact HB.out | apply below_alloc | apply pw_below_drewN | apply below_drew1) | exact HB.out))) : w.heap.size ≤ gb187)); clear HO_10; clear HB; have HO_10 := n0_; have HB := n1_; have BK187 := n2_; have GW187 := n3_; have GE187 := n4_; clear n0_ n1_ n2_ n3_ n4_; clear hb hbox hg; have hcz69_0 : w68.cell? ⟨gb187, 0, none⟩ = some (.int .i64 0) := (blk_cell BK187.out 0).trans rfl; have hcz69_1 : w68.cell? ⟨gb187, 1, none⟩ = some (.int .i64 0) := (blk_cell BK187.out 1).trans rfl; have hcz69_2 : w68.cell? ⟨gb187, 2, none⟩ = some (.int .i64 0) := (blk_cell BK187.out 2).trans rfl; have hfz69_0 := blk_frozen BK187.out 0; have hfz69_1 := blk_frozen BK187.out 1; have hfz69_2 := blk_frozen BK187.out 2) | (go_at_call 31; (with_reducible refine (spec_l1In.calls a3 1 2 false _ A42.out).mono ?_); rintro e w' ⟨rfl, ⟨nd, rfl⟩⟩))
              go_roundg kj8
              case measure => have := HK1.out; have := HJ8.out; omega
              case rel => exact ⟨(x10_1), (wrap64 (x11_1 + 1)), (by first | rfl | (simp; done) | (simp [*]; done)), H', ⟨by have := HK1.out; have := HJ8.out; omega⟩, ⟨by (with_reducible repeat (first | apply Kd.R_alloc | apply Kd.R_drewN | apply Kd.R_drew)); exact Kd.R_mono (Kd.R_far (p := ⟨gb187, 2, none⟩) (Kd.R_far (p := ⟨gb187, 1, none⟩) (Kd.R_far (p := ⟨gb187, 0, none⟩) (Kd.R_mono HO_10.out (fun k_ hk => (⟨hk, hk.2⟩ : _ ∧ k_ ≠ gb187))) (fun _ hk => hk.2) (.int .i64 ((rd_T48 l0 x11_1).f0))) (fun _ hk => hk.2) (.int .i64 ((rd_T48 l0 x11_1).f1))) (fun _ hk => hk.2) (.int .i64 ((rd_T48 l0 x11_1).f2))) (fun _ hk => trivial)⟩, ⟨by repeat (first | (with_reducible first | exact HB.out | apply below_alloc | apply pw_below_drewN | apply below_drew1 | refine below_set ?_ GE187.out) | exact HB.out)⟩⟩
            ·rw [if_neg c58] at H
             have c58b0 : (((rd_T48 l0 x11_1).f0) == a1) = false := beq_eq_false_iff_ne.mpr c58
             have c58b1 : (((rd_T48 l0 x11_1).f0) != a1) = true := bne_iff_ne.mpr c58
             have H' := Aside0.mk H
             clear H
             have p186 : 0 ≤ (x11_1 : Int) := of_decide_eq_true (by first | (with_reducible assumption) | assumption)
             have q186 : x11_1 < (l0.length : Int) := of_decide_eq_true (by first | (with_reducible assumption) | assumption)
             obtain ⟨ad186, e186, hx186_0, hx186_1, hx186_2⟩ := at_T48 HR0.out x11_1 p186 q186
             cases e186
             replace hx186_0 := (HB.out.cell (World.block_lt_of_cell? w _ hx186_0)).trans hx186_0
             replace hx186_1 := (HB.out.cell (World.block_lt_of_cell? w _ hx186_1)).trans hx186_1
             replace hx186_2 := (HB.out.cell (World.block_lt_of_cell? w _ hx186_2)).trans hx186_2
             replace p186 := eq_true p186
             replace q186 := eq_true q186
             go_wp2_with (first | ((with_reducible refine gate_dst (N := 12) rfl ?_); refine box_event ?hg (N := 12) ?hd (cs := #[.int .i64 0, .int .i64 0, .int .i64 0]) (t := 48) ?hr ?_; (case hd => rfl); (case hg => rfl); (case hr => first | (go_simp; done) | (go_simp; rfl)); intro gb187 hg w70 hbox hb; have n0_ := Aside0.mk (Kd.R_below (Kd.R_elderB (by (with_reducible repeat (first | apply Kd.R_alloc | apply Kd.R_drewN | apply Kd.R_drew)); exact HO_10.out) gb187 (Nat.le_of_eq hg.symm)) hb); have n1_ := Aside0.mk (below_step (by repeat (first | (with_reducible first | exact HB.out | apply below_alloc | apply pw_below_drewN | apply below_drew1) | exact HB.out)) hb); have n2_ := Aside0.mk (hbox); have n3_ := Aside0.mk ((by rw [hg]; exact (below_size (by repeat (first | (with_reducible first | exact HB.out | apply below_alloc | apply pw_below_drewN | apply below_drew1) | exact HB.out))) : w.heap.size ≤ gb187)); have n4_ := Aside0.mk ((by rw [hg]; exact (below_size (by repeat (first | (with_reducible first | exact HB.out | apply below_alloc | apply pw_below_drewN | apply below_drew1) | exact HB.out))) : w.heap.size ≤ gb187)); clear HO_10; clear HB; have HO_10 := n0_; have HB := n1_; have BK187 := n2_; have GW187 := n3_; have GE187 := n4_; clear n0_ n1_ n2_ n3_ n4_; clear hb hbox hg; have hcz71_0 : w70.cell? ⟨gb187, 0, none⟩ = some (.int .i64 0) := (blk_cell BK187.out 0).trans rfl; have hcz71_1 : w70.cell? ⟨gb187, 1, none⟩ = some (.int .i64 0) := (blk_cell BK187.out 1).trans rfl; have hcz71_2 : w70.cell? ⟨gb187, 2, none⟩ = some (.int .i64 0) := (blk_cell BK187.out 2).trans rfl; have hfz71_0 := blk_frozen BK187.out 0; have hfz71_1 := blk_frozen BK187.out 1; have hfz71_2 := blk_frozen BK187.out 2) | (go_at_call 31; (with_reducible refine (spec_l1In.calls a3 1 2 t190 _ A42.out).mono ?_); rintro e w' ⟨rfl, ⟨nd, rfl⟩⟩))
             go_roundg kj8
             case measure => have := HK1.out; have := HJ8.out; omega
             case rel => exact ⟨(x10_1), (wrap64 (x11_1 + 1)), (by first | rfl | (simp; done) | (simp [*]; done)), H', ⟨by have := HK1.out; have := HJ8.out; omega⟩, ⟨by (with_reducible repeat (first | apply Kd.R_alloc | apply Kd.R_drewN | apply Kd.R_drew)); exact Kd.R_mono (Kd.R_far (p := ⟨gb187, 2, none⟩) (Kd.R_far (p := ⟨gb187, 1, none⟩) (Kd.R_far (p := ⟨gb187, 0, none⟩) (Kd.R_mono HO_10.out (fun k_ hk => (⟨hk, hk.2⟩ : _ ∧ k_ ≠ gb187))) (fun _ hk => hk.2) (.int .i64 ((rd_T48 l0 x11_1).f0))) (fun _ hk => hk.2) (.int .i64 ((rd_T48 l0 x11_1).f1))) (fun _ hk => hk.2) (.int .i64 ((rd_T48 l0 x11_1).f2))) (fun _ hk => trivial)⟩, ⟨by repeat (first | (with_reducible first | exact HB.out | apply below_alloc | apply pw_below_drewN | apply below_drew1 | refine below_set ?_ GE187.out) | exact HB.out)⟩⟩
         ·rw [if_neg c19] at H
          have c19b0 : (((rd_T48 l0 x11_1).f2) == 0) = false := beq_eq_false_iff_ne.mpr c19
          have c19b1 : (((rd_T48 l0 x11_1).f2) != 0) = true := bne_iff_ne.mpr c19
          by_cases c72 : ((rd_T48 l0 x11_1).f2) = 2
          ·rw [if_pos c72] at H
           have c72b0 : (((rd_T48 l0 x11_1).f2) == 2) = true := beq_iff_eq.mpr c72
           have c72b1 : (((rd_T48 l0 x11_1).f2) != 2) = false := bne_eq_false_iff_eq.mpr c72
           clear c72
           by_cases c73 : a2 = ((rd_T48 l0 x11_1).f1)
           ·rw [if_pos c73] at H
            have c73b0 : (a2 == ((rd_T48 l0 x11_1).f1)) = true := beq_iff_eq.mpr c73
            have c73b1 : (a2 != ((rd_T48 l0 x11_1).f1)) = false := bne_eq_false_iff_eq.mpr c73
            clear c73
            replace H := Option.bind_eq_some_iff.mp H
            obtain ⟨t193, A740, H⟩ := H
            replace H : (if ((rd_T48 l0 x11_1).f0) = a1 then (if t193 = true then (if x11_1 < (x10_1.length : Int) then (some ((x10_1.set (x11_1 : Int).toNat (⟨(rd_T48 x10_1 x11_1).f0, (rd_T48 x10_1 x11_1).f1, a3⟩ : S48)), true)) else (none)) else (spec_Reply.l0 kj8 l0 a1 a2 a3 x10_1 (wrap64 (x11_1 + 1)))) else (spec_Reply.l0 kj8 l0 a1 a2 a3 x10_1 (wrap64 (x11_1 + 1)))) = some (r1, r2) := H
            have A74 := Aside0.mk A740
            clear A740
            by_cases c75 : ((rd_T48 l0 x11_1).f0) = a1
            ·rw [if_pos c75] at H
             have c75b0 : (((rd_T48 l0 x11_1).f0) == a1) = true := beq_iff_eq.mpr c75
             have c75b1 : (((rd_T48 l0 x11_1).f0) != a1) = false := bne_eq_false_iff_eq.mpr c75
             clear c75
             by_cases c76 : t193 = true
             ·subst c76
              have H1 : (if x11_1 < (x10_1.length : Int) then (some ((x10_1.set (x11_1 : Int).toNat (⟨(rd_T48 x10_1 x11_1).f0, (rd_T48 x10_1 x11_1).f1, a3⟩ : S48)), true)) else (none)) = some (r1, r2) := by rw [if_pos rfl] at H; exact H
              clear H
              have H := H1
              clear H1
              by_cases c77 : x11_1 < (x10_1.length : Int)
              ·rw [if_pos c77] at H
               have c77b0 : decide (x11_1 < (x10_1.length : Int)) = true := decide_eq_true c77
               clear c77
               obtain ⟨y194, hy194⟩ : ∃ y_ : List (S48), y_ = (x10_1.set (x11_1 : Int).toNat (⟨(rd_T48 x10_1 x11_1).f0, (rd_T48 x10_1 x11_1).f1, a3⟩ : S48)) := ⟨_, rfl⟩
               replace H : (some (y194, true)) = some (r1, r2) := by first | (rw [hy194]; with_reducible exact H) | (have H2_ := (Option.bind_some _ _).symm.trans H; rw [hy194]; with_reducible exact H2_) | (have H2_ := (Option.bind_some _ _).symm.trans H; with_reducible exact H2_) | with_reducible exact H | (rw [hy194]; exact H) | exact H
               have Ny194 := Aside0.mk hy194
               clear hy194
               simp only [Option.some.injEq, Prod.mk.injEq] at H
               obtain ⟨rfl, rfl⟩ := H
               have p186 : 0 ≤ (x11_1 : Int) := of_decide_eq_true (by first | (with_reducible assumption) | assumption)
               have q186 : x11_1 < (l0.length : Int) := of_decide_eq_true (by first | (with_reducible assumption) | assumption)
               obtain ⟨ad186, e186, hx186_0, hx186_1, hx186_2⟩ := at_T48 HR0.out x11_1 p186 q186
               cases e186
               replace hx186_0 := (HB.out.cell (World.block_lt_of_cell? w _ hx186_0)).trans hx186_0
               replace hx186_1 := (HB.out.cell (World.block_lt_of_cell? w _ hx186_1)).trans hx186_1
               replace hx186_2 := (HB.out.cell (World.block_lt_of_cell? w _ hx186_2)).trans hx186_2
               replace p186 := eq_true p186
               replace q186 := eq_true q186
               go_wp2_with (first | ((with_reducible refine gate_dst (N := 12) rfl ?_); refine box_event ?hg (N := 12) ?hd (cs := #[.int .i64 0, .int .i64 0, .int .i64 0]) (t := 48) ?hr ?_; (case hd => rfl); (case hg => rfl); (case hr => first | (go_simp; done) | (go_simp; rfl)); intro gb187 hg w79 hbox hb; have n0_ := Aside0.mk (Kd.R_below (Kd.R_elderB (by (with_reducible repeat (first | apply Kd.R_alloc | apply Kd.R_drewN | apply Kd.R_drew)); exact HO_10.out) gb187 (Nat.le_of_eq hg.symm)) hb); have n1_ := Aside0.mk (below_step (by repeat (first | (with_reducible first | exact HB.out | apply below_alloc | apply pw_below_drewN | apply below_drew1) | exact HB.out)) hb); have n2_ := Aside0.mk (hbox); have n3_ := Aside0.mk ((by rw [hg]; exact (below_size (by repeat (first | (with_reducible first | exact HB.out | apply below_alloc | apply pw_below_drewN | apply below_drew1) | exact HB.out))) : w.heap.size ≤ gb187)); have n4_ := Aside0.mk ((by rw [hg]; exact (below_size (by repeat (first | (with_reducible first | exact HB.out | apply below_alloc | apply pw_below_drewN | apply below_drew1) | exact HB.out))) : w.heap.size ≤ gb187)); clear HO_10; clear HB; have HO_10 := n0_; have HB := n1_; have BK187 := n2_; have GW187 := n3_; have GE187 := n4_; clear n0_ n1_ n2_ n3_ n4_; clear hb hbox hg; have hcz80_0 : w79.cell? ⟨gb187, 0, none⟩ = some (.int .i64 0) := (blk_cell BK187.out 0).trans rfl; have hcz80_1 : w79.cell? ⟨gb187, 1, none⟩ = some (.int .i64 0) := (blk_cell BK187.out 1).trans rfl; have hcz80_2 : w79.cell? ⟨gb187, 2, none⟩ = some (.int .i64 0) := (blk_cell BK187.out 2).trans rfl; have hfz80_0 := blk_frozen BK187.out 0; have hfz80_1 := blk_frozen BK187.out 1; have hfz80_2 := blk_frozen BK187.out 2) | ((with_reducible refine gate_store (t := 48) (p := 12) rfl ?_); refine store_event (t := 48) (p := 12) (v := ?vo_w81) (w1 := (((w79.setCell ⟨gb187, 0, none⟩ (.int .i64 ((rd_T48 l0 x11_1).f0))).setCell ⟨gb187, 1, none⟩ (.int .i64 ((rd_T48 l0 x11_1).f1))).setCell ⟨gb187, 2, none⟩ (.int .i64 ((rd_T48 l0 x11_1).f2)))) ?hg ?ho ?hn ?hr ?_; (case ho => rfl); (case hg => rfl); (case hn => rfl); (case hr => first | (go_simp; done) | (go_simp; rfl)); intro w81 hw; have n0_ : Aside0 (Kd.R k48 48 w81 w.heap.size (fun k_ => k_ ≠ gb187) v182 x10_1) := ⟨(by rw [hw]; exact (by (with_reducible repeat (first | apply Kd.R_alloc | apply Kd.R_drewN | apply Kd.R_drew)); exact Kd.R_mono (Kd.R_far (p := ⟨gb187, 2, none⟩) (Kd.R_far (p := ⟨gb187, 1, none⟩) (Kd.R_far (p := ⟨gb187, 0, none⟩) (Kd.R_mono HO_10.out (fun k_ hk => (⟨hk, hk.2⟩ : _ ∧ k_ ≠ gb187))) (fun _ hk => hk.2) (.int .i64 ((rd_T48 l0 x11_1).f0))) (fun _ hk => hk.2) (.int .i64 ((rd_T48 l0 x11_1).f1))) (fun _ hk => hk.2) (.int .i64 ((rd_T48 l0 x11_1).f2))) (fun _ hk => hk.1.2)))⟩; have n1_ : Aside0 (w81.heap[gb187]? = some (.cells #[.int .i64 ((rd_T48 l0 x11_1).f0), .int .i64 ((rd_T48 l0 x11_1).f1), .int .i64 ((rd_T48 l0 x11_1).f2)] 48 (0, 0))) := ⟨(by rw [hw]; exact (by (with_reducible repeat (first | refine blk_drewN ?_ _ | refine blk_drew ?_ | refine blk_alloc ?_ _)); refine blk_put (cs := #[.int .i64 ((rd_T48 l0 x11_1).f0), .int .i64 ((rd_T48 l0 x11_1).f1), .int .i64 0]) ?_ 2 _ rfl; (with_reducible repeat (first | refine blk_drewN ?_ _ | refine blk_drew ?_ | refine blk_alloc ?_ _)); refine blk_put (cs := #[.int .i64 ((rd_T48 l0 x11_1).f0), .int .i64 0, .int .i64 0]) ?_ 1 _ rfl; (with_reducible repeat (first | refine blk_drewN ?_ _ | refine blk_drew ?_ | refine blk_alloc ?_ _)); refine blk_put (cs := #[.int .i64 0, .int .i64 0, .int .i64 0]) ?_ 0 _ rfl; (with_reducible repeat (first | refine blk_drewN ?_ _ | refine blk_drew ?_ | refine blk_alloc ?_ _)); exact BK187.out))⟩; have n2_ : Aside0 (Below w.heap.size w w81) := ⟨(by rw [hw]; exact (by repeat (first | (with_reducible first | exact HB.out | apply below_alloc | apply pw_below_drewN | apply below_drew1 | refine below_set ?_ GE187.out) | exact HB.out)))⟩; clear hw; clear HO_10; clear BK187; clear HB; have HO_10 := n0_; have BK187 := n1_; have HB := n2_; clear n0_ n1_ n2_; have hcz82_0 : w81.cell? ⟨gb187, 0, none⟩ = some (.int .i64 ((rd_T48 l0 x11_1).f0)) := (blk_cell BK187.out 0).trans rfl; have hcz82_1 : w81.cell? ⟨gb187, 1, none⟩ = some (.int .i64 ((rd_T48 l0 x11_1).f1)) := (blk_cell BK187.out 1).trans rfl; have hcz82_2 : w81.cell? ⟨gb187, 2, none⟩ = some (.int .i64 ((rd_T48 l0 x11_1).f2)) := (blk_cell BK187.out 2).trans rfl; have hfz82_0 := blk_frozen BK187.out 0; have hfz82_1 := blk_frozen BK187.out 1; have hfz82_2 := blk_frozen BK187.out 2) | (go_at_call 31; (with_reducible refine (spec_l1In.calls a3 3 4 true _ A74.out).mono ?_); rintro e w' ⟨rfl, ⟨nd, rfl⟩⟩; (try (rw [drewN_self w81]; generalize hq_ : World.drewN w81 _ = w81; have n0_ : Aside0 (Kd.R k48 48 w81 w.heap.size (fun k_ => k_ ≠ gb187) v182 x10_1) := ⟨by rw [← hq_]; exact (by (with_reducible repeat (first | apply Kd.R_alloc | apply Kd.R_drewN | apply Kd.R_drew)); exact HO_10.out)⟩; have n1_ : Aside0 (w81.heap[gb187]? = some (.cells #[.int .i64 ((rd_T48 l0 x11_1).f0), .int .i64 ((rd_T48 l0 x11_1).f1), .int .i64 ((rd_T48 l0 x11_1).f2)] 48 (0, 0))) := ⟨by rw [← hq_]; exact (by (with_reducible repeat (first | refine blk_drewN ?_ _ | refine blk_drew ?_ | refine blk_alloc ?_ _)); exact BK187.out)⟩; have n2_ : Aside0 (Below w.heap.size w w81) := ⟨by rw [← hq_]; exact (by repeat (first | (with_reducible first | exact HB.out | apply below_alloc | apply pw_below_drewN | apply below_drew1 | refine below_set ?_ GE187.out) | exact HB.out))⟩; clear HO_10 BK187 HB hq_; have HO_10 := n0_; have BK187 := n1_; have HB := n2_; clear n0_ n1_ n2_)); (try (have hcugb187_0 : w81.cell? ⟨gb187, 0, none⟩ = some (.int .i64 ((rd_T48 l0 x11_1).f0)) := (blk_cell BK187.out 0).trans rfl)); (try (have hfugb187_0 := blk_frozen BK187.out 0)); (try (have hcugb187_1 : w81.cell? ⟨gb187, 1, none⟩ = some (.int .i64 ((rd_T48 l0 x11_1).f1)) := (blk_cell BK187.out 1).trans rfl)); (try (have hfugb187_1 := blk_frozen BK187.out 1)); (try (have hcugb187_2 : w81.cell? ⟨gb187, 2, none⟩ = some (.int .i64 ((rd_T48 l0 x11_1).f2)) := (blk_cell BK187.out 2).trans rfl)); (try (have hfugb187_2 := blk_frozen BK187.out 2)); have p78 : 0 ≤ (x11_1 : Int) := of_decide_eq_true (by first | (with_reducible assumption) | assumption); have q78 : (x11_1 : Int) < ((x10_1.length : Int) : Int) := of_decide_eq_true (by first | (with_reducible assumption) | assumption); obtain ⟨go78, co78, eo78, gb78, gl78, cl78, HG78⟩ := Kd.R_form HO_10.out (by omega); (first | cases eo78 | (injection eo78 with ea_ en_ ec_; (first | subst ea_ | (injection ea_ with ea_; subst ea_)); subst ec_; clear en_)); have GB78 := Aside0.mk gb78; have GG78 := Aside0.mk HG78; clear gb78 gl78 HG78; obtain ⟨ce78, hcl78, hM78, hcc78, hfr78⟩ := Kd.R_elem HO_10.out z48 (x11_1 : Int) p78 q78; obtain rfl := k48_openM hM78; have hx78_0 : w81.cell? ⟨go78, (x11_1 : Int).toNat * 3, none⟩ = some (.int .i64 ((rd_T48 x10_1 x11_1).f0)) := hcc78 0 _ rfl; have hx78_1 : w81.cell? ⟨go78, (x11_1 : Int).toNat * 3 + 1, none⟩ = some (.int .i64 ((rd_T48 x10_1 x11_1).f1)) := hcc78 1 _ rfl; have hx78_2 : w81.cell? ⟨go78, (x11_1 : Int).toNat * 3 + 2, none⟩ = some (.int .i64 ((rd_T48 x10_1 x11_1).f2)) := hcc78 2 _ rfl; have hf78_0 : w81.frozen? ⟨go78, (x11_1 : Int).toNat * 3, none⟩ = false := hfr78 0; have hf78_1 : w81.frozen? ⟨go78, (x11_1 : Int).toNat * 3 + 1, none⟩ = false := hfr78 1; have hf78_2 : w81.frozen? ⟨go78, (x11_1 : Int).toNat * 3 + 2, none⟩ = false := hfr78 2; (try clear hM78); clear hcl78 hcc78 hfr78; replace p78 := eq_true p78; replace q78 := eq_true q78; have HX83 := Aside0.mk (show Kd.R k48 48 w81 w.heap.size (fun k_ => k_ ≠ gb187) (.slice (some ⟨go78, 0, none⟩) x10_1.length co78) x10_1 from (by (with_reducible repeat (first | apply Kd.R_alloc | apply Kd.R_drewN | apply Kd.R_drew)); exact HO_10.out)); obtain ⟨ce83, hcl83, hM83, hcc83, hfr83⟩ := Kd.R_elem HX83.out z48 (x11_1 : Int) (of_decide_eq_true (by first | (with_reducible assumption) | assumption)) (by have h_ : (x11_1 : Int) < ((x10_1.length : Int) : Int) := of_decide_eq_true (by first | (with_reducible assumption) | assumption); first | exact h_ | (have e_ := (Kd.R_reads' HO_10.out).1; omega) | simpa using h_); obtain rfl := k48_openM hM83; have HP83 := Kd.R_seg HX83.out (x11_1 : Int) (of_decide_eq_true (by first | (with_reducible assumption) | assumption)) (by have h_ : (x11_1 : Int) < ((x10_1.length : Int) : Int) := of_decide_eq_true (by first | (with_reducible assumption) | assumption); first | exact h_ | (have e_ := (Kd.R_reads' HO_10.out).1; omega) | simpa using h_) (seg := [.int .i64 a3]) (j := 2) hcl83 hcc83 (show 3 ≤ 3 from by decide) (x' := (⟨(rd_T48 x10_1 x11_1).f0, (rd_T48 x10_1 x11_1).f1, a3⟩ : S48)) (k48_mkM _ _ _ (⟨(rd_T48 x10_1 x11_1).f0, (rd_T48 x10_1 x11_1).f1, a3⟩ : S48) ) (fun _ hk => hk); have hx83_2 := hcc83 2 _ rfl; (try simp only [show (k48).sz = 3 from rfl, Nat.mul_one, Nat.add_zero] at hx83_2); have hf83_2 := hfr83 2; (try simp only [show (k48).sz = 3 from rfl, Nat.mul_one, Nat.add_zero] at hf83_2); (try clear hM83); clear hcl83 hcc83 hfr83) | ((with_reducible refine gate_store (t := 3) (p := 76) rfl ?_); refine store_event (t := 3) (p := 76) (v := ?vo_w84) (w1 := (w81.setCell ⟨go78, (x11_1 : Int).toNat * 3 + 2, none⟩ (.int .i64 a3))) ?hg ?ho ?hn ?hr ?_; (case ho => rfl); (case hg => rfl); (case hn => rfl); (case hr => first | (go_simp; done) | (go_simp; rfl)); intro w84 hw; have hg : w81.grownBy w84 (some go78) := (by rw [hw]; exact HP83.2); have hp_ : Kd.R k48 48 w84 w.heap.size (fun k_ => k_ ≠ gb187) (.slice (some ⟨go78, 0, none⟩) x10_1.length co78) y194 := (by rw [hw, Ny194.out]; exact HP83.1); clear HP83; have n0_ := Aside0.mk (hp_); have n1_ := Aside0.mk (blk_grown (g := gb187) (o := .cells #[.int .i64 ((rd_T48 l0 x11_1).f0), .int .i64 ((rd_T48 l0 x11_1).f1), .int .i64 ((rd_T48 l0 x11_1).f2)] 48 (0, 0)) (by (with_reducible repeat (first | refine blk_drewN ?_ _ | refine blk_drew ?_ | refine blk_alloc ?_ _)); exact BK187.out) hg (Kd.R_away HO_10.out (fun _ hk => hk))); have n2_ := Aside0.mk ((by rw [hw]; exact below_set (HB.out) GB78.out : Below w.heap.size w w84)); clear HO_10; clear BK187; clear HB; have HO_10 := n0_; have BK187 := n1_; have HB := n2_; clear n0_ n1_ n2_; clear hg hw hp_))
               go_ret2
               exact ⟨_, by first | rfl | (simp [errW_none, errW_some] <;> rfl) | (simp [*, errW_none, errW_some] <;> rfl), by (with_reducible repeat (first | apply Kd.R_alloc | apply Kd.R_drewN | apply Kd.R_drew)); exact Kd.R_mono HO_10.out (fun _ hk => trivial), by repeat (first | (with_reducible first | exact HB.out | apply below_alloc | apply pw_below_drewN | apply below_drew1 | refine below_set ?_ GE187.out) | exact HB.out)⟩
              ·rw [if_neg c77] at H
               exact absurd H (by simp)
             ·replace c76 := Bool.eq_false_iff.mpr c76
              subst c76
              have H1 : (spec_Reply.l0 kj8 l0 a1 a2 a3 x10_1 (wrap64 (x11_1 + 1))) = some (r1, r2) := by rw [if_neg (show ¬ (false = true) by decide)] at H; exact H
              clear H
              have H := H1
              clear H1
              have H' := Aside0.mk H
              clear H
              have p186 : 0 ≤ (x11_1 : Int) := of_decide_eq_true (by first | (with_reducible assumption) | assumption)
              have q186 : x11_1 < (l0.length : Int) := of_decide_eq_true (by first | (with_reducible assumption) | assumption)
              obtain ⟨ad186, e186, hx186_0, hx186_1, hx186_2⟩ := at_T48 HR0.out x11_1 p186 q186
              cases e186
              replace hx186_0 := (HB.out.cell (World.block_lt_of_cell? w _ hx186_0)).trans hx186_0
              replace hx186_1 := (HB.out.cell (World.block_lt_of_cell? w _ hx186_1)).trans hx186_1
              replace hx186_2 := (HB.out.cell (World.block_lt_of_cell? w _ hx186_2)).trans hx186_2
              replace p186 := eq_true p186
              replace q186 := eq_true q186
              go_wp2_with (first | ((with_reducible refine gate_dst (N := 12) rfl ?_); refine box_event ?hg (N := 12) ?hd (cs := #[.int .i64 0, .int .i64 0, .int .i64 0]) (t := 48) ?hr ?_; (case hd => rfl); (case hg => rfl); (case hr => first | (go_simp; done) | (go_simp; rfl)); intro gb187 hg w85 hbox hb; have n0_ := Aside0.mk (Kd.R_below (Kd.R_elderB (by (with_reducible repeat (first | apply Kd.R_alloc | apply Kd.R_drewN | apply Kd.R_drew)); exact HO_10.out) gb187 (Nat.le_of_eq hg.symm)) hb); have n1_ := Aside0.mk (below_step (by repeat (first | (with_reducible first | exact HB.out | apply below_alloc | apply pw_below_drewN | apply below_drew1) | exact HB.out)) hb); have n2_ := Aside0.mk (hbox); have n3_ := Aside0.mk ((by rw [hg]; exact (below_size (by repeat (first | (with_reducible first | exact HB.out | apply below_alloc | apply pw_below_drewN | apply below_drew1) | exact HB.out))) : w.heap.size ≤ gb187)); have n4_ := Aside0.mk ((by rw [hg]; exact (below_size (by repeat (first | (with_reducible first | exact HB.out | apply below_alloc | apply pw_below_drewN | apply below_drew1) | exact HB.out))) : w.heap.size ≤ gb187)); clear HO_10; clear HB; have HO_10 := n0_; have HB := n1_; have BK187 := n2_; have GW187 := n3_; have GE187 := n4_; clear n0_ n1_ n2_ n3_ n4_; clear hb hbox hg; have hcz86_0 : w85.cell? ⟨gb187, 0, none⟩ = some (.int .i64 0) := (blk_cell BK187.out 0).trans rfl; have hcz86_1 : w85.cell? ⟨gb187, 1, none⟩ = some (.int .i64 0) := (blk_cell BK187.out 1).trans rfl; have hcz86_2 : w85.cell? ⟨gb187, 2, none⟩ = some (.int .i64 0) := (blk_cell BK187.out 2).trans rfl; have hfz86_0 := blk_frozen BK187.out 0; have hfz86_1 := blk_frozen BK187.out 1; have hfz86_2 := blk_frozen BK187.out 2) | (go_at_call 31; (with_reducible refine (spec_l1In.calls a3 3 4 false _ A74.out).mono ?_); rintro e w' ⟨rfl, ⟨nd, rfl⟩⟩))
              go_roundg kj8
              case measure => have := HK1.out; have := HJ8.out; omega
              case rel => exact ⟨(x10_1), (wrap64 (x11_1 + 1)), (by first | rfl | (simp; done) | (simp [*]; done)), H', ⟨by have := HK1.out; have := HJ8.out; omega⟩, ⟨by (with_reducible repeat (first | apply Kd.R_alloc | apply Kd.R_drewN | apply Kd.R_drew)); exact Kd.R_mono (Kd.R_far (p := ⟨gb187, 2, none⟩) (Kd.R_far (p := ⟨gb187, 1, none⟩) (Kd.R_far (p := ⟨gb187, 0, none⟩) (Kd.R_mono HO_10.out (fun k_ hk => (⟨hk, hk.2⟩ : _ ∧ k_ ≠ gb187))) (fun _ hk => hk.2) (.int .i64 ((rd_T48 l0 x11_1).f0))) (fun _ hk => hk.2) (.int .i64 ((rd_T48 l0 x11_1).f1))) (fun _ hk => hk.2) (.int .i64 ((rd_T48 l0 x11_1).f2))) (fun _ hk => trivial)⟩, ⟨by repeat (first | (with_reducible first | exact HB.out | apply below_alloc | apply pw_below_drewN | apply below_drew1 | refine below_set ?_ GE187.out) | exact HB.out)⟩⟩
            ·rw [if_neg c75] at H
             have c75b0 : (((rd_T48 l0 x11_1).f0) == a1) = false := beq_eq_false_iff_ne.mpr c75
             have c75b1 : (((rd_T48 l0 x11_1).f0) != a1) = true := bne_iff_ne.mpr c75
             have H' := Aside0.mk H
             clear H
             have p186 : 0 ≤ (x11_1 : Int) := of_decide_eq_true (by first | (with_reducible assumption) | assumption)
             have q186 : x11_1 < (l0.length : Int) := of_decide_eq_true (by first | (with_reducible assumption) | assumption)
             obtain ⟨ad186, e186, hx186_0, hx186_1, hx186_2⟩ := at_T48 HR0.out x11_1 p186 q186
             cases e186
             replace hx186_0 := (HB.out.cell (World.block_lt_of_cell? w _ hx186_0)).trans hx186_0
             replace hx186_1 := (HB.out.cell (World.block_lt_of_cell? w _ hx186_1)).trans hx186_1
             replace hx186_2 := (HB.out.cell (World.block_lt_of_cell? w _ hx186_2)).trans hx186_2
             replace p186 := eq_true p186
             replace q186 := eq_true q186
             go_wp2_with (first | ((with_reducible refine gate_dst (N := 12) rfl ?_); refine box_event ?hg (N := 12) ?hd (cs := #[.int .i64 0, .int .i64 0, .int .i64 0]) (t := 48) ?hr ?_; (case hd => rfl); (case hg => rfl); (case hr => first | (go_simp; done) | (go_simp; rfl)); intro gb187 hg w87 hbox hb; have n0_ := Aside0.mk (Kd.R_below (Kd.R_elderB (by (with_reducible repeat (first | apply Kd.R_alloc | apply Kd.R_drewN | apply Kd.R_drew)); exact HO_10.out) gb187 (Nat.le_of_eq hg.symm)) hb); have n1_ := Aside0.mk (below_step (by repeat (first | (with_reducible first | exact HB.out | apply below_alloc | apply pw_below_drewN | apply below_drew1) | exact HB.out)) hb); have n2_ := Aside0.mk (hbox); have n3_ := Aside0.mk ((by rw [hg]; exact (below_size (by repeat (first | (with_reducible first | exact HB.out | apply below_alloc | apply pw_below_drewN | apply below_drew1) | exact HB.out))) : w.heap.size ≤ gb187)); have n4_ := Aside0.mk ((by rw [hg]; exact (below_size (by repeat (first | (with_reducible first | exact HB.out | apply below_alloc | apply pw_below_drewN | apply below_drew1) | exact HB.out))) : w.heap.size ≤ gb187)); clear HO_10; clear HB; have HO_10 := n0_; have HB := n1_; have BK187 := n2_; have GW187 := n3_; have GE187 := n4_; clear n0_ n1_ n2_ n3_ n4_; clear hb hbox hg; have hcz88_0 : w87.cell? ⟨gb187, 0, none⟩ = some (.int .i64 0) := (blk_cell BK187.out 0).trans rfl; have hcz88_1 : w87.cell? ⟨gb187, 1, none⟩ = some (.int .i64 0) := (blk_cell BK187.out 1).trans rfl; have hcz88_2 : w87.cell? ⟨gb187, 2, none⟩ = some (.int .i64 0) := (blk_cell BK187.out 2).trans rfl; have hfz88_0 := blk_frozen BK187.out 0; have hfz88_1 := blk_frozen BK187.out 1; have hfz88_2 := blk_frozen BK187.out 2) | (go_at_call 31; (with_reducible refine (spec_l1In.calls a3 3 4 t193 _ A74.out).mono ?_); rintro e w' ⟨rfl, ⟨nd, rfl⟩⟩))
             go_roundg kj8
             case measure => have := HK1.out; have := HJ8.out; omega
             case rel => exact ⟨(x10_1), (wrap64 (x11_1 + 1)), (by first | rfl | (simp; done) | (simp [*]; done)), H', ⟨by have := HK1.out; have := HJ8.out; omega⟩, ⟨by (with_reducible repeat (first | apply Kd.R_alloc | apply Kd.R_drewN | apply Kd.R_drew)); exact Kd.R_mono (Kd.R_far (p := ⟨gb187, 2, none⟩) (Kd.R_far (p := ⟨gb187, 1, none⟩) (Kd.R_far (p := ⟨gb187, 0, none⟩) (Kd.R_mono HO_10.out (fun k_ hk => (⟨hk, hk.2⟩ : _ ∧ k_ ≠ gb187))) (fun _ hk => hk.2) (.int .i64 ((rd_T48 l0 x11_1).f0))) (fun _ hk => hk.2) (.int .i64 ((rd_T48 l0 x11_1).f1))) (fun _ hk => hk.2) (.int .i64 ((rd_T48 l0 x11_1).f2))) (fun _ hk => trivial)⟩, ⟨by repeat (first | (with_reducible first | exact HB.out | apply below_alloc | apply pw_below_drewN | apply below_drew1 | refine below_set ?_ GE187.out) | exact HB.out)⟩⟩
           ·rw [if_neg c73] at H
            have c73b0 : (a2 == ((rd_T48 l0 x11_1).f1)) = false := beq_eq_false_iff_ne.mpr c73
            have c73b1 : (a2 != ((rd_T48 l0 x11_1).f1)) = true := bne_iff_ne.mpr c73
            by_cases c89 : ((rd_T48 l0 x11_1).f0) = a1
            ·rw [if_pos c89] at H
             have c89b0 : (((rd_T48 l0 x11_1).f0) == a1) = true := beq_iff_eq.mpr c89
             have c89b1 : (((rd_T48 l0 x11_1).f0) != a1) = false := bne_eq_false_iff_eq.mpr c89
             clear c89
             have H' := Aside0.mk H
             clear H
             have p186 : 0 ≤ (x11_1 : Int) := of_decide_eq_true (by first | (with_reducible assumption) | assumption)
             have q186 : x11_1 < (l0.length : Int) := of_decide_eq_true (by first | (with_reducible assumption) | assumption)
             obtain ⟨ad186, e186, hx186_0, hx186_1, hx186_2⟩ := at_T48 HR0.out x11_1 p186 q186
             cases e186
             replace hx186_0 := (HB.out.cell (World.block_lt_of_cell? w _ hx186_0)).trans hx186_0
             replace hx186_1 := (HB.out.cell (World.block_lt_of_cell? w _ hx186_1)).trans hx186_1
             replace hx186_2 := (HB.out.cell (World.block_lt_of_cell? w _ hx186_2)).trans hx186_2
             replace p186 := eq_true p186
             replace q186 := eq_true q186
             go_wp2_with (first | ((with_reducible refine gate_dst (N := 12) rfl ?_); refine box_event ?hg (N := 12) ?hd (cs := #[.int .i64 0, .int .i64 0, .int .i64 0]) (t := 48) ?hr ?_; (case hd => rfl); (case hg => rfl); (case hr => first | (go_simp; done) | (go_simp; rfl)); intro gb187 hg w90 hbox hb; have n0_ := Aside0.mk (Kd.R_below (Kd.R_elderB (by (with_reducible repeat (first | apply Kd.R_alloc | apply Kd.R_drewN | apply Kd.R_drew)); exact HO_10.out) gb187 (Nat.le_of_eq hg.symm)) hb); have n1_ := Aside0.mk (below_step (by repeat (first | (with_reducible first | exact HB.out | apply below_alloc | apply pw_below_drewN | apply below_drew1) | exact HB.out)) hb); have n2_ := Aside0.mk (hbox); have n3_ := Aside0.mk ((by rw [hg]; exact (below_size (by repeat (first | (with_reducible first | exact HB.out | apply below_alloc | apply pw_below_drewN | apply below_drew1) | exact HB.out))) : w.heap.size ≤ gb187)); have n4_ := Aside0.mk ((by rw [hg]; exact (below_size (by repeat (first | (with_reducible first | exact HB.out | apply below_alloc | apply pw_below_drewN | apply below_drew1) | exact HB.out))) : w.heap.size ≤ gb187)); clear HO_10; clear HB; have HO_10 := n0_; have HB := n1_; have BK187 := n2_; have GW187 := n3_; have GE187 := n4_; clear n0_ n1_ n2_ n3_ n4_; clear hb hbox hg; have hcz91_0 : w90.cell? ⟨gb187, 0, none⟩ = some (.int .i64 0) := (blk_cell BK187.out 0).trans rfl; have hcz91_1 : w90.cell? ⟨gb187, 1, none⟩ = some (.int .i64 0) := (blk_cell BK187.out 1).trans rfl; have hcz91_2 : w90.cell? ⟨gb187, 2, none⟩ = some (.int .i64 0) := (blk_cell BK187.out 2).trans rfl; have hfz91_0 := blk_frozen BK187.out 0; have hfz91_1 := blk_frozen BK187.out 1; have hfz91_2 := blk_frozen BK187.out 2))
             go_roundg kj8
             case measure => have := HK1.out; have := HJ8.out; omega
             case rel => exact ⟨(x10_1), (wrap64 (x11_1 + 1)), (by first | rfl | (simp; done) | (simp [*]; done)), H', ⟨by have := HK1.out; have := HJ8.out; omega⟩, ⟨by (with_reducible repeat (first | apply Kd.R_alloc | apply Kd.R_drewN | apply Kd.R_drew)); exact Kd.R_mono (Kd.R_far (p := ⟨gb187, 2, none⟩) (Kd.R_far (p := ⟨gb187, 1, none⟩) (Kd.R_far (p := ⟨gb187, 0, none⟩) (Kd.R_mono HO_10.out (fun k_ hk => (⟨hk, hk.2⟩ : _ ∧ k_ ≠ gb187))) (fun _ hk => hk.2) (.int .i64 ((rd_T48 l0 x11_1).f0))) (fun _ hk => hk.2) (.int .i64 ((rd_T48 l0 x11_1).f1))) (fun _ hk => hk.2) (.int .i64 ((rd_T48 l0 x11_1).f2))) (fun _ hk => trivial)⟩, ⟨by repeat (first | (with_reducible first | exact HB.out | apply below_alloc | apply pw_below_drewN | apply below_drew1 | refine below_set ?_ GE187.out) | exact HB.out)⟩⟩
            ·rw [if_neg c89] at H
             have c89b0 : (((rd_T48 l0 x11_1).f0) == a1) = false := beq_eq_false_iff_ne.mpr c89
             have c89b1 : (((rd_T48 l0 x11_1).f0) != a1) = true := bne_iff_ne.mpr c89
             have H' := Aside0.mk H
             clear H
             have p186 : 0 ≤ (x11_1 : Int) := of_decide_eq_true (by first | (with_reducible assumption) | assumption)
             have q186 : x11_1 < (l0.length : Int) := of_decide_eq_true (by first | (with_reducible assumption) | assumption)
             obtain ⟨ad186, e186, hx186_0, hx186_1, hx186_2⟩ := at_T48 HR0.out x11_1 p186 q186
             cases e186
             replace hx186_0 := (HB.out.cell (World.block_lt_of_cell? w _ hx186_0)).trans hx186_0
             replace hx186_1 := (HB.out.cell (World.block_lt_of_cell? w _ hx186_1)).trans hx186_1
             replace hx186_2 := (HB.out.cell (World.block_lt_of_cell? w _ hx186_2)).trans hx186_2
             replace p186 := eq_true p186
             replace q186 := eq_true q186
             go_wp2_with (first | ((with_reducible refine gate_dst (N := 12) rfl ?_); refine box_event ?hg (N := 12) ?hd (cs := #[.int .i64 0, .int .i64 0, .int .i64 0]) (t := 48) ?hr ?_; (case hd => rfl); (case hg => rfl); (case hr => first | (go_simp; done) | (go_simp; rfl)); intro gb187 hg w92 hbox hb; have n0_ := Aside0.mk (Kd.R_below (Kd.R_elderB (by (with_reducible repeat (first | apply Kd.R_alloc | apply Kd.R_drewN | apply Kd.R_drew)); exact HO_10.out) gb187 (Nat.le_of_eq hg.symm)) hb); have n1_ := Aside0.mk (below_step (by repeat (first | (with_reducible first | exact HB.out | apply below_alloc | apply pw_below_drewN | apply below_drew1) | exact HB.out)) hb); have n2_ := Aside0.mk (hbox); have n3_ := Aside0.mk ((by rw [hg]; exact (below_size (by repeat (first | (with_reducible first | exact HB.out | apply below_alloc | apply pw_below_drewN | apply below_drew1) | exact HB.out))) : w.heap.size ≤ gb187)); have n4_ := Aside0.mk ((by rw [hg]; exact (below_size (by repeat (first | (with_reducible first | exact HB.out | apply below_alloc | apply pw_below_drewN | apply below_drew1) | exact HB.out))) : w.heap.size ≤ gb187)); clear HO_10; clear HB; have HO_10 := n0_; have HB := n1_; have BK187 := n2_; have GW187 := n3_; have GE187 := n4_; clear n0_ n1_ n2_ n3_ n4_; clear hb hbox hg; have hcz93_0 : w92.cell? ⟨gb187, 0, none⟩ = some (.int .i64 0) := (blk_cell BK187.out 0).trans rfl; have hcz93_1 : w92.cell? ⟨gb187, 1, none⟩ = some (.int .i64 0) := (blk_cell BK187.out 1).trans rfl; have hcz93_2 : w92.cell? ⟨gb187, 2, none⟩ = some (.int .i64 0) := (blk_cell BK187.out 2).trans rfl; have hfz93_0 := blk_frozen BK187.out 0; have hfz93_1 := blk_frozen BK187.out 1; have hfz93_2 := blk_frozen BK187.out 2))
             go_roundg kj8
             case measure => have := HK1.out; have := HJ8.out; omega
             case rel => exact ⟨(x10_1), (wrap64 (x11_1 + 1)), (by first | rfl | (simp; done) | (simp [*]; done)), H', ⟨by have := HK1.out; have := HJ8.out; omega⟩, ⟨by (with_reducible repeat (first | apply Kd.R_alloc | apply Kd.R_drewN | apply Kd.R_drew)); exact Kd.R_mono (Kd.R_far (p := ⟨gb187, 2, none⟩) (Kd.R_far (p := ⟨gb187, 1, none⟩) (Kd.R_far (p := ⟨gb187, 0, none⟩) (Kd.R_mono HO_10.out (fun k_ hk => (⟨hk, hk.2⟩ : _ ∧ k_ ≠ gb187))) (fun _ hk => hk.2) (.int .i64 ((rd_T48 l0 x11_1).f0))) (fun _ hk => hk.2) (.int .i64 ((rd_T48 l0 x11_1).f1))) (fun _ hk => hk.2) (.int .i64 ((rd_T48 l0 x11_1).f2))) (fun _ hk => trivial)⟩, ⟨by repeat (first | (with_reducible first | exact HB.out | apply below_alloc | apply pw_below_drewN | apply below_drew1 | refine below_set ?_ GE187.out) | exact HB.out)⟩⟩
          ·rw [if_neg c72] at H
           have c72b0 : (((rd_T48 l0 x11_1).f2) == 2) = false := beq_eq_false_iff_ne.mpr c72
           have c72b1 : (((rd_T48 l0 x11_1).f2) != 2) = true := bne_iff_ne.mpr c72
           by_cases c94 : ((rd_T48 l0 x11_1).f0) = a1
           ·rw [if_pos c94] at H
            have c94b0 : (((rd_T48 l0 x11_1).f0) == a1) = true := beq_iff_eq.mpr c94
            have c94b1 : (((rd_T48 l0 x11_1).f0) != a1) = false := bne_eq_false_iff_eq.mpr c94
            clear c94
            have H' := Aside0.mk H
            clear H
            have p186 : 0 ≤ (x11_1 : Int) := of_decide_eq_true (by first | (with_reducible assumption) | assumption)
            have q186 : x11_1 < (l0.length : Int) := of_decide_eq_true (by first | (with_reducible assumption) | assumption)
            obtain ⟨ad186, e186, hx186_0, hx186_1, hx186_2⟩ := at_T48 HR0.out x11_1 p186 q186
            cases e186
            replace hx186_0 := (HB.out.cell (World.block_lt_of_cell? w _ hx186_0)).trans hx186_0
            replace hx186_1 := (HB.out.cell (World.block_lt_of_cell? w _ hx186_1)).trans hx186_1
            replace hx186_2 := (HB.out.cell (World.block_lt_of_cell? w _ hx186_2)).trans hx186_2
            replace p186 := eq_true p186
            replace q186 := eq_true q186
            go_wp2_with (first | ((with_reducible refine gate_dst (N := 12) rfl ?_); refine box_event ?hg (N := 12) ?hd (cs := #[.int .i64 0, .int .i64 0, .int .i64 0]) (t := 48) ?hr ?_; (case hd => rfl); (case hg => rfl); (case hr => first | (go_simp; done) | (go_simp; rfl)); intro gb187 hg w95 hbox hb; have n0_ := Aside0.mk (Kd.R_below (Kd.R_elderB (by (with_reducible repeat (first | apply Kd.R_alloc | apply Kd.R_drewN | apply Kd.R_drew)); exact HO_10.out) gb187 (Nat.le_of_eq hg.symm)) hb); have n1_ := Aside0.mk (below_step (by repeat (first | (with_reducible first | exact HB.out | apply below_alloc | apply pw_below_drewN | apply below_drew1) | exact HB.out)) hb); have n2_ := Aside0.mk (hbox); have n3_ := Aside0.mk ((by rw [hg]; exact (below_size (by repeat (first | (with_reducible first | exact HB.out | apply below_alloc | apply pw_below_drewN | apply below_drew1) | exact HB.out))) : w.heap.size ≤ gb187)); have n4_ := Aside0.mk ((by rw [hg]; exact (below_size (by repeat (first | (with_reducible first | exact HB.out | apply below_alloc | apply pw_below_drewN | apply below_drew1) | exact HB.out))) : w.heap.size ≤ gb187)); clear HO_10; clear HB; have HO_10 := n0_; have HB := n1_; have BK187 := n2_; have GW187 := n3_; have GE187 := n4_; clear n0_ n1_ n2_ n3_ n4_; clear hb hbox hg; have hcz96_0 : w95.cell? ⟨gb187, 0, none⟩ = some (.int .i64 0) := (blk_cell BK187.out 0).trans rfl; have hcz96_1 : w95.cell? ⟨gb187, 1, none⟩ = some (.int .i64 0) := (blk_cell BK187.out 1).trans rfl; have hcz96_2 : w95.cell? ⟨gb187, 2, none⟩ = some (.int .i64 0) := (blk_cell BK187.out 2).trans rfl; have hfz96_0 := blk_frozen BK187.out 0; have hfz96_1 := blk_frozen BK187.out 1; have hfz96_2 := blk_frozen BK187.out 2))
            go_roundg kj8
            case measure => have := HK1.out; have := HJ8.out; omega
            case rel => exact ⟨(x10_1), (wrap64 (x11_1 + 1)), (by first | rfl | (simp; done) | (simp [*]; done)), H', ⟨by have := HK1.out; have := HJ8.out; omega⟩, ⟨by (with_reducible repeat (first | apply Kd.R_alloc | apply Kd.R_drewN | apply Kd.R_drew)); exact Kd.R_mono (Kd.R_far (p := ⟨gb187, 2, none⟩) (Kd.R_far (p := ⟨gb187, 1, none⟩) (Kd.R_far (p := ⟨gb187, 0, none⟩) (Kd.R_mono HO_10.out (fun k_ hk => (⟨hk, hk.2⟩ : _ ∧ k_ ≠ gb187))) (fun _ hk => hk.2) (.int .i64 ((rd_T48 l0 x11_1).f0))) (fun _ hk => hk.2) (.int .i64 ((rd_T48 l0 x11_1).f1))) (fun _ hk => hk.2) (.int .i64 ((rd_T48 l0 x11_1).f2))) (fun _ hk => trivial)⟩, ⟨by repeat (first | (with_reducible first | exact HB.out | apply below_alloc | apply pw_below_drewN | apply below_drew1 | refine below_set ?_ GE187.out) | exact HB.out)⟩⟩
           ·rw [if_neg c94] at H
            have c94b0 : (((rd_T48 l0 x11_1).f0) == a1) = false := beq_eq_false_iff_ne.mpr c94
            have c94b1 : (((rd_T48 l0 x11_1).f0) != a1) = true := bne_iff_ne.mpr c94
            have H' := Aside0.mk H
            clear H
            have p186 : 0 ≤ (x11_1 : Int) := of_decide_eq_true (by first | (with_reducible assumption) | assumption)
            have q186 : x11_1 < (l0.length : Int) := of_decide_eq_true (by first | (with_reducible assumption) | assumption)
            obtain ⟨ad186, e186, hx186_0, hx186_1, hx186_2⟩ := at_T48 HR0.out x11_1 p186 q186
            cases e186
            replace hx186_0 := (HB.out.cell (World.block_lt_of_cell? w _ hx186_0)).trans hx186_0
            replace hx186_1 := (HB.out.cell (World.block_lt_of_cell? w _ hx186_1)).trans hx186_1
            replace hx186_2 := (HB.out.cell (World.block_lt_of_cell? w _ hx186_2)).trans hx186_2
            replace p186 := eq_true p186
            replace q186 := eq_true q186
            go_wp2_with (first | ((with_reducible refine gate_dst (N := 12) rfl ?_); refine box_event ?hg (N := 12) ?hd (cs := #[.int .i64 0, .int .i64 0, .int .i64 0]) (t := 48) ?hr ?_; (case hd => rfl); (case hg => rfl); (case hr => first | (go_simp; done) | (go_simp; rfl)); intro gb187 hg w97 hbox hb; have n0_ := Aside0.mk (Kd.R_below (Kd.R_elderB (by (with_reducible repeat (first | apply Kd.R_alloc | apply Kd.R_drewN | apply Kd.R_drew)); exact HO_10.out) gb187 (Nat.le_of_eq hg.symm)) hb); have n1_ := Aside0.mk (below_step (by repeat (first | (with_reducible first | exact HB.out | apply below_alloc | apply pw_below_drewN | apply below_drew1) | exact HB.out)) hb); have n2_ := Aside0.mk (hbox); have n3_ := Aside0.mk ((by rw [hg]; exact (below_size (by repeat (first | (with_reducible first | exact HB.out | apply below_alloc | apply pw_below_drewN | apply below_drew1) | exact HB.out))) : w.heap.size ≤ gb187)); have n4_ := Aside0.mk ((by rw [hg]; exact (below_size (by repeat (first | (with_reducible first | exact HB.out | apply below_alloc | apply pw_below_drewN | apply below_drew1) | exact HB.out))) : w.heap.size ≤ gb187)); clear HO_10; clear HB; have HO_10 := n0_; have HB := n1_; have BK187 := n2_; have GW187 := n3_; have GE187 := n4_; clear n0_ n1_ n2_ n3_ n4_; clear hb hbox hg; have hcz98_0 : w97.cell? ⟨gb187, 0, none⟩ = some (.int .i64 0) := (blk_cell BK187.out 0).trans rfl; have hcz98_1 : w97.cell? ⟨gb187, 1, none⟩ = some (.int .i64 0) := (blk_cell BK187.out 1).trans rfl; have hcz98_2 : w97.cell? ⟨gb187, 2, none⟩ = some (.int .i64 0) := (blk_cell BK187.out 2).trans rfl; have hfz98_0 := blk_frozen BK187.out 0; have hfz98_1 := blk_frozen BK187.out 1; have hfz98_2 := blk_frozen BK187.out 2))
            go_roundg kj8
            case measure => have := HK1.out; have := HJ8.out; omega
            case rel => exact ⟨(x10_1), (wrap64 (x11_1 + 1)), (by first | rfl | (simp; done) | (simp [*]; done)), H', ⟨by have := HK1.out; have := HJ8.out; omega⟩, ⟨by (with_reducible repeat (first | apply Kd.R_alloc | apply Kd.R_drewN | apply Kd.R_drew)); exact Kd.R_mono (Kd.R_far (p := ⟨gb187, 2, none⟩) (Kd.R_far (p := ⟨gb187, 1, none⟩) (Kd.R_far (p := ⟨gb187, 0, none⟩) (Kd.R_mono HO_10.out (fun k_ hk => (⟨hk, hk.2⟩ : _ ∧ k_ ≠ gb187))) (fun _ hk => hk.2) (.int .i64 ((rd_T48 l0 x11_1).f0))) (fun _ hk => hk.2) (.int .i64 ((rd_T48 l0 x11_1).f1))) (fun _ hk => hk.2) (.int .i64 ((rd_T48 l0 x11_1).f2))) (fun _ hk => trivial)⟩, ⟨by repeat (first | (with_reducible first | exact HB.out | apply below_alloc | apply pw_below_drewN | apply below_drew1 | refine below_set ?_ GE187.out) | exact HB.out)⟩⟩
        ·rw [if_neg c18] at H
         exact absurd H (by simp)
       ·rw [if_neg c17] at H
        exact absurd H (by simp)
      ·replace c16 := Bool.eq_false_iff.mpr c16
       subst c16
       have H1 : (some (x10_1, false)) = some (r1, r2) := by rw [if_neg (show ¬ (false = true) by decide)] at H; exact H
       clear H
       have H := H1
       clear H1
       simp only [Option.some.injEq, Prod.mk.injEq] at H
       obtain ⟨rfl, rfl⟩ := H
       go_wp2
       go_ret2
       exact ⟨_, by first | rfl | (simp [errW_none, errW_some] <;> rfl) | (simp [*, errW_none, errW_some] <;> rfl), by (with_reducible repeat (first | apply Kd.R_alloc | apply Kd.R_drewN | apply Kd.R_drew)); exact HO_10.out, by repeat (first | (with_reducible first | exact HB.out | apply below_alloc | apply pw_below_drewN | apply below_drew1) | exact HB.out)⟩
 ·rw [if_neg c5] at H
  exact absurd H (by simp)

end Go.Proofs.Ytjidlgimnigllaa.PFnBurdens
