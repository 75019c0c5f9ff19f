-- Written by a program of this session (hooks of mine on the print): Lean checks it.
import Derived.Test.YtjidlgimnigllaaPFnExactReplyx0
import Derived.Test.YtjidlgimnigllaaPFnExactReplyx4
namespace Go.Proofs.Ytjidlgimnigllaa.PFnExactReply
open Go.RowKit Go.Proofs.YtjidlgimnigllaaW.PrintWords Go.Proofs.YtjidlgimnigllaaW.PrintLast Go.Proofs.YtjidlgimnigllaaW.PrintMore
attribute [local go_sem] max2_int min2_int max_two min_two max_three min_three max_four min_four   -- for this text's walks alone
set_option linter.unusedVariables false
set_option linter.unusedSimpArgs false

/-! ### impl_Point_35: function 35 -/
def impl_Point_35.f (l0 : List (S48)) : Option ((List (S48))) := (some (([] : List (S48)) : List (S48))).bind fun y153 => (if y153.length + l0.length < 5864062014805 then (some (y153 ++ l0)) else (none))
set_option maxHeartbeats 8000000 in
set_option maxRecDepth 100000 in
theorem impl_Point_35.some_ (ad : Addr) (c0 : Nat) (l0 : List (S48)) (r : List (S48)) (w : World) (hr0 : Kd.C k48 w (some ad) l0.length l0) (hc0 : l0.length ≤ c0) (h : impl_Point_35.f l0 = some r) :
    Calls Try.prog 35 #[.slice (some ad) l0.length c0] w fun e w' => ∃ v0_ : Value, e = .returned (v0_) ∧ Kd.R k48 48 w' w.heap.size (fun _ => True) v0_ r ∧ Below w.heap.size w w' := by
  have HR0 := Aside0.mk hr0
  have HC0 := Aside0.mk hc0
  clear hr0 hc0
  have HB := Aside0.mk (Below.refl w.heap.size w)
  have H : ((some (([] : List (S48)) : List (S48))).bind fun y153 => (if y153.length + l0.length < 5864062014805 then (some (y153 ++ l0)) else (none))) = some r := h
  clear h
  obtain ⟨y153, hy153⟩ : ∃ y_ : List (S48), y_ = (([] : List (S48))) := ⟨_, rfl⟩
  replace H : (if y153.length + l0.length < 5864062014805 then (some (y153 ++ l0)) else (none)) = some r := by first | (rw [hy153]; with_reducible exact H) | (have H2_ := (Option.bind_some _ _).symm.trans H; rw [hy153]; with_reducible exact H2_) | (have H2_ := (Option.bind_some _ _).symm.trans H; with_reducible exact H2_) | with_reducible exact H | (rw [hy153]; exact H) | exact H
  have Ny153 := Aside0.mk hy153
  clear hy153
  by_cases c2 : y153.length + l0.length < 5864062014805
  · rw [if_pos c2] at H
    have LMc2 := Aside0.mk c2
    clear c2
    obtain ⟨y156, hy156⟩ : ∃ y_ : List (S48), y_ = (y153 ++ l0) := ⟨_, rfl⟩
    replace H : (some y156) = some r := by first | (rw [hy156]; with_reducible exact H) | (have H2_ := (Option.bind_some _ _).symm.trans H; rw [hy156]; with_reducible exact H2_) | (have H2_ := (Option.bind_some _ _).symm.trans H; with_reducible exact H2_) | with_reducible exact H | (rw [hy156]; exact H) | exact H
    have Ny156 := Aside0.mk hy156
    clear hy156
    obtain rfl := Option.some.inj H
    have he : ∀ w : World, (binOp .eql 26 (.slice (some ad) l0.length c0) (.slice none 0 0)).run Try.prog w = .ok (.bool false) w := fun _ => rfl
    go_enter Try.func35, Try.ntmps35
    go_wp2_with (first | ((with_reducible refine gate_dst (N := 5) rfl ?_); refine Kd.R_lit k48 _ 48 ?hg (N := 5) ?hd (xs := ([] : List (S48))) (inner := []) (ok := fun _ => True) (okp := fun _ => True) ?hr ?hp (fun _ hk => hk) trivial (Below.refl _ _) (Nat.le_refl _) (by simp) ?_; (case hd => rfl); (case hg => rfl); (case hr => first | (go_simp; done) | (go_simp; rfl)); (case hp => exact (Reps.none _ _)); intro v154 w3 ho4 hb hg_ hnew_; clear hg_ hnew_; (first | rw [← Ny153.out] at ho4 | (simp only [Int.reduceToNat] at ho4; rw [← Ny153.out] at ho4)); have n0_ := Aside0.mk (Kd.R_lower ho4 (below_size (by repeat (first | (with_reducible first | exact HB.out | apply below_alloc | apply pw_below_drewN | apply below_drew1) | exact HB.out)))); have n1_ := Aside0.mk (below_step (by repeat (first | (with_reducible first | exact HB.out | apply below_alloc | apply pw_below_drewN | apply below_drew1) | exact HB.out)) hb); clear HB; have HO155 := n0_; have HB := n1_; clear n0_ n1_; clear hb ho4) | ((with_reducible refine gate_builtin (b := .append) (xs := #[.tmp 5, .tmp 6]) rfl ?_); at_builtin; refine Kd.R_append_rows k48 (w0 := w) w.heap.size rfl (.tmp 5) (.tmp 6) 26 48 (.agg #[(.int .i64 0), (.int .i64 0), (.int .i64 0)]) 24 rfl Try.underlying26 info48 rfl (by decide) (by omega) v154 y153 l0 _ _ _ (fun _ => True) (fun _ => False) rfl rfl ?aO ?aR (fun _ _ h => h) (fun _ h => h.elim) ?aF ?aB ?aS ?aL ?_; (case aR => repeat (first | exact (Kd.C_below HR0.out HB.out) | (with_reducible refine Kd.C_alloc ?_ _) | (with_reducible refine Kd.C_drewN ?_ _) | (with_reducible refine Kd.C_drew ?_))); (case aB => exact (by repeat (first | (with_reducible first | exact HB.out | apply below_alloc | apply pw_below_drewN | apply below_drew1) | exact HB.out))); (case aF => exact (fun _ _ => trivial)); (case aO => exact (by (with_reducible repeat (first | apply Kd.R_alloc | apply Kd.R_drewN | apply Kd.R_drew)); exact HO155.out)); (case aS => exact (below_size (by repeat (first | (with_reducible first | exact HB.out | apply below_alloc | apply pw_below_drewN | apply below_drew1) | exact HB.out)))); (case aL => have := LMc2.out; omega); intro v157 w5 ho hb hg hat; rw [← Ny156.out] at ho; have n0_ := Aside0.mk (hb); have n1_ := Aside0.mk (ho); clear HB; clear HO155; have HB := n0_; have HO158 := n1_; clear n0_ n1_; clear ho hb hg hat))
    go_ret
    exact ⟨_, by first | rfl | (simp [errW_none, errW_some] <;> rfl) | (simp [*, errW_none, errW_some] <;> rfl), by (with_reducible repeat (first | apply Kd.R_alloc | apply Kd.R_drewN | apply Kd.R_drew)); exact HO158.out, by repeat (first | (with_reducible first | exact HB.out | apply below_alloc | apply pw_below_drewN | apply below_drew1) | exact HB.out)⟩
  · rw [if_neg c2] at H
    exact absurd H (by simp)
set_option maxHeartbeats 8000000 in
set_option maxRecDepth 100000 in
theorem impl_Point_35.none_ (c0 : Nat) (l0 : List (S48)) (r : List (S48)) (w : World) (hr0 : Kd.C k48 w none l0.length l0) (hc0 : l0.length ≤ c0) (h : impl_Point_35.f l0 = some r) :
    Calls Try.prog 35 #[.slice none l0.length c0] w fun e w' => ∃ v0_ : Value, e = .returned (v0_) ∧ Kd.R k48 48 w' w.heap.size (fun _ => True) v0_ r ∧ Below w.heap.size w w' := by
  have hl : l0 = [] := by
    cases l0 with
    | nil => rfl
    | cons x l1 =>
      obtain ⟨ad, e, _⟩ := at_T48 hr0 0 (Int.le_refl _) (by rw [List.length_cons]; omega)
      exact absurd e (by simp)
  subst hl
  have h : some ([] : List (S48)) = some r := by simpa [impl_Point_35.f] using h
  have HR0 := Aside0.mk hr0
  have HC0 := Aside0.mk hc0
  clear hr0 hc0
  have HB := Aside0.mk (Below.refl w.heap.size w)
  have H : (some ([] : List (S48))) = some r := h
  clear h
  obtain rfl := Option.some.inj H
  have he : ∀ w : World, (binOp .eql 26 (.slice none 0 c0) (.slice none 0 0)).run Try.prog w = .ok (.bool true) w := fun _ => rfl
  go_enter Try.func35, Try.ntmps35
  go_wp2
  go_ret
  exact ⟨_, by first | rfl | (simp [errW_none, errW_some] <;> rfl) | (simp [*, errW_none, errW_some] <;> rfl), by first | exact Kd.R_nil _ _ _ _ _ | exact Kd.N_nil _ _ _ _ _ | exact Kd.V_nil _ _ _ _ _ | exact Kd.Q_nil _ _ _ _ _ | exact Kd.S_nil _ _ _ _ _, by repeat (first | (with_reducible first | exact HB.out | apply below_alloc | apply pw_below_drewN | apply below_drew1) | exact HB.out)⟩
set_option maxRecDepth 100000 in
theorem impl_Point_35.calls (A0 : Option Addr) (c0 : Nat) (l0 : List (S48)) (r : List (S48)) (w : World) (hr0 : Kd.C k48 w A0 l0.length l0) (hc0 : l0.length ≤ c0) (h : impl_Point_35.f l0 = some r) :
    Calls Try.prog 35 #[.slice A0 l0.length c0] w fun e w' => ∃ v0_ : Value, e = .returned (v0_) ∧ Kd.R k48 48 w' w.heap.size (fun _ => True) v0_ r ∧ Below w.heap.size w w' := by
  cases A0 with
  | none => exact impl_Point_35.none_ c0 l0 r w hr0 hc0 h
  | some ad => exact impl_Point_35.some_ ad c0 l0 r w hr0 hc0 h

-- NOT PRINTED: function 44 (impl_Point_44)

/-! ### impl_pointAt: function 36 -/
/-- The place of the first point with an Id, or -1. -/
def impl_pointAt.l0 : Nat → List (S48) → Int → Int → Option Int
  | 0, _, _, _ => none
  | k + 1, x0, x1, x8 => if x8 < (x0.length : Int) then (if 0 ≤ x8 then (if ((rd_T48 x0 x8).f0) = x1 then (some x8) else (impl_pointAt.l0 k x0 x1 (wrap64 (x8 + 1)))) else (none)) else (some (-1))
def impl_pointAt.f (k : Nat) (l0 : List (S48)) (a1 : Int) : Option Int := impl_pointAt.l0 k l0 a1 0
theorem impl_pointAt.mono_l : ∀ k, (∀ y0 y1 y2, LeO (impl_pointAt.l0 k y0 y1 y2) (impl_pointAt.l0 (k + 1) y0 y1 y2))
  | 0 => fun _ _ _ => by (unfold impl_pointAt.l0; exact LeO.none _)
  | k + 1 => by
    have ih0 := impl_pointAt.mono_l k
    · intro y0 y1 y2
      unfold impl_pointAt.l0
      repeat' first
      | (with_reducible exact ih0 _ _ _)
      | (with_reducible exact LeO.refl _)
      | (with_reducible exact LeO.none _)
      | (with_reducible refine LeO.ite ?_ ?_)
      | exact ih0 _ _ _
      | exact LeO.none _
      | refine LeO.ite ?_ ?_
theorem impl_pointAt.mono : ∀ a0 a1 k, LeO (impl_pointAt.f k a0 a1) (impl_pointAt.f (k + 1) a0 a1) := by
  intro a0 a1 k
  exact impl_pointAt.mono_l k _ _ _
set_option maxHeartbeats 8000000 in
set_option maxRecDepth 100000 in
/-- The function value: the point in hand has the boxed Id. -/
theorem impl_pointAt.pred (p : S48) (a1 : Int) (B : Nat) (w : World) (hB : B < w.heap.size) (hcell : w.cell? ⟨B, 0, none⟩ = some (.int .i64 a1)) :
    Calls Try.prog 45 #[.agg #[.int .i64 p.f0, .int .i64 p.f1, .int .i64 p.f2], .pointer (some ⟨B, 0, none⟩)] w fun e w' => e = .returned (.bool (p.f0 == a1)) ∧ Below w.heap.size w w' := by
  have hc2 : ∀ o, (w.alloc o).cell? ⟨B, 0, none⟩ = some (.int .i64 a1) := fun o => (((Below.refl w.heap.size w).alloc (Nat.le_refl _) o).cell (p := ⟨B, 0, none⟩) hB).trans hcell
  have hc3 : ∀ o n, ((w.alloc o).drewN n).cell? ⟨B, 0, none⟩ = some (.int .i64 a1) := fun o n => ((pw_below_drewN ((Below.refl w.heap.size w).alloc (Nat.le_refl _) o) n).cell (p := ⟨B, 0, none⟩) hB).trans hcell
  have hc4 : ∀ o, ((w.alloc o).drew).cell? ⟨B, 0, none⟩ = some (.int .i64 a1) := fun o => ((below_drew1 ((Below.refl w.heap.size w).alloc (Nat.le_refl _) o)).cell (p := ⟨B, 0, none⟩) hB).trans hcell
  go_enter Try.func45, Try.ntmps45
  go_wp2
  go_ret
  exact ⟨by first | rfl | (simp; done) | (simp [*]; done), by repeat (first | exact Below.refl _ _ | apply below_drew1 | apply pw_below_drewN | refine Below.alloc ?_ (Nat.le_refl _) _)⟩
set_option maxHeartbeats 8000000 in
set_option maxRecDepth 100000 in
theorem impl_pointAt.finds (k : Nat) (A0 : Option Addr) (c0 : Nat) (l0 : List (S48)) (a1 : Int) (B : Nat) (r : Int) (w : World) (hr0 : Kd.C k48 w A0 l0.length l0) (hc0 : l0.length ≤ c0) (hB : B < w.heap.size) (hcell : w.cell? ⟨B, 0, none⟩ = some (.int .i64 a1)) (h : impl_pointAt.l0 k l0 a1 0 = some r) :
    Calls Try.prog 44 #[.slice A0 l0.length c0, .func (.func 45) #[] #[.pointer (some ⟨B, 0, none⟩)]] w fun e w' => e = .returned (.int .i64 r) ∧ Below w.heap.size w w' := by
  have eg : ∀ args w, (callFunc 45 args).run Try.prog w = .ok (.enter 45 args) w := enters_of Try.func45 (by kernel_rfl) rfl
  have H' := Aside0.mk h
  have HR0 := Aside0.mk hr0
  have HCELL := Aside0.mk hcell
  have HBB := Aside0.mk hB
  clear h hr0 hcell hB
  go_enter Try.func44, Try.ntmps44
  go_wp2
  go_loopg [5, 8] k (fun kq _ v8 w' => ∃ (x8_1 : Int), v8 = .int .i64 x8_1 ∧ Aside0 (impl_pointAt.l0 kq l0 a1 x8_1 = some r) ∧ Aside0 (kq ≤ k) ∧ Aside0 (Below w.heap.size w w'))
  case atStart => exact ⟨0, rfl, H', ⟨Nat.le_refl _⟩, ⟨by repeat (first | exact Below.refl _ _ | apply below_drew1 | apply pw_below_drewN)⟩⟩
  case round =>
    clear H'
    obtain ⟨x8_1, rfl, HA, HK1, HB⟩ := hrel
    cases gk with
    | zero => exact absurd HA.out (by simp [impl_pointAt.l0])
    | succ k1 =>
      have H := HA.out
      clear HA
      simp only [impl_pointAt.l0] at H
      by_cases c3 : x8_1 < (l0.length : Int)
      · rw [if_pos c3] at H
        have c3b0 : decide (x8_1 < (l0.length : Int)) = true := decide_eq_true c3
        by_cases c4 : 0 ≤ x8_1
        · rw [if_pos c4] at H
          have c4b0 : decide (0 ≤ x8_1) = true := decide_eq_true c4
          have p101 : 0 ≤ (x8_1 : Int) := c4
          have q101 : x8_1 < (l0.length : Int) := c3
          clear c3 c4
          obtain ⟨ad145, e145, hx145_0, hx145_1, hx145_2⟩ := at_T48 HR0.out x8_1 p101 q101
          cases e145
          replace hx145_0 := (HB.out.cell (World.block_lt_of_cell? w _ hx145_0)).trans hx145_0
          replace hx145_1 := (HB.out.cell (World.block_lt_of_cell? w _ hx145_1)).trans hx145_1
          replace hx145_2 := (HB.out.cell (World.block_lt_of_cell? w _ hx145_2)).trans hx145_2
          replace p101 := eq_true p101
          replace q101 := eq_true q101
          have hcall := fun W (hW : Below w.heap.size w W) => (show Calls Try.prog 45 (#[.agg #[.int .i64 (rd_T48 l0 x8_1).f0, .int .i64 (rd_T48 l0 x8_1).f1, .int .i64 (rd_T48 l0 x8_1).f2]] ++ #[.pointer (some ⟨B, 0, none⟩)]) W fun e w' => e = .returned (.bool ((rd_T48 l0 x8_1).f0 == a1)) ∧ Below W.heap.size W w' from impl_pointAt.pred (rd_T48 l0 x8_1) a1 B W (Nat.lt_of_lt_of_le HBB.out hW.size) ((hW.cell (p := ⟨B, 0, none⟩) HBB.out).trans HCELL.out))
          by_cases c6 : ((rd_T48 l0 x8_1).f0) = a1
          · rw [if_pos c6] at H
            rw [show ((rd_T48 l0 x8_1).f0 == a1) = true from beq_iff_eq.2 c6] at hcall
            clear c6
            obtain rfl := Option.some.inj H
            go_wp2_with (go_at_call 45; refine (hcall _ (by repeat (first | exact HB.out | apply below_drew1 | apply pw_below_drewN))).mono ?_; rintro e w' ⟨rfl, hb⟩)
            go_ret
            exact ⟨rfl, below_step (by repeat (first | exact HB.out | apply below_drew1 | apply pw_below_drewN)) hb⟩
          · rw [if_neg c6] at H
            rw [show ((rd_T48 l0 x8_1).f0 == a1) = false from beq_eq_false_iff_ne.2 c6] at hcall
            clear c6
            have H' := Aside0.mk H
            clear H
            go_wp2_with (go_at_call 45; refine (hcall _ (by repeat (first | exact HB.out | apply below_drew1 | apply pw_below_drewN))).mono ?_; rintro e w' ⟨rfl, hb⟩)
            go_roundg k1
            case measure => have := HK1.out; omega
            case rel => exact ⟨(wrap64 (x8_1 + 1)), (by first | rfl | (simp; done) | (simp [*]; done)), H', ⟨by have := HK1.out; omega⟩, ⟨below_step (by repeat (first | exact HB.out | apply below_drew1 | apply pw_below_drewN)) hb⟩⟩
        · rw [if_neg c4] at H
          exact absurd H (by simp)
      · rw [if_neg c3] at H
        have c3b0 : decide (x8_1 < (l0.length : Int)) = false := decide_eq_false c3
        clear c3
        obtain rfl := Option.some.inj H
        go_wp2
        go_ret
        exact ⟨rfl, by repeat (first | exact HB.out | apply below_drew1 | apply pw_below_drewN)⟩
set_option maxHeartbeats 8000000 in
set_option maxRecDepth 100000 in
theorem impl_pointAt.calls (k : Nat) (A0 : Option Addr) (c0 : Nat) (l0 : List (S48)) (a1 : Int) (r : Int) (w : World) (hr0 : Kd.C k48 w A0 l0.length l0) (hc0 : l0.length ≤ c0) (h : impl_pointAt.f k l0 a1 = some r) :
    Calls Try.prog 36 #[.slice A0 l0.length c0, .int .i64 a1] w fun e w' => e = .returned (.int .i64 r) ∧ Below w.heap.size w w' := by
  have hcon := impl_pointAt.finds k A0 c0 l0 a1 w.heap.size r (w.alloc (.cells #[.int .i64 a1] 3)) (Kd.C_alloc hr0 _) hc0 (by simp) (by simp) h
  clear hr0 h
  go_enter Try.func36, Try.ntmps36
  go_wp2_with (go_at_call 44; refine hcon.mono ?_; rintro e w' ⟨rfl, hb⟩)
  go_ret
  exact ⟨rfl, below_step ((Below.refl _ w).alloc (Nat.le_refl _) _) hb⟩

/-! ### impl_Reply: function 17 -/
mutual
def impl_Reply.j0 : Nat → List (S48) → Int → Int → List (S48) → Int → Bool → Option ((List (S48)) × Bool)
  | 0, _, _, _, _, _, _ => none
  | k + 1, x0, x2, x3, x10, x11, x24 => if x24 = true then (some (x10, false)) else (if 0 ≤ x11 then (if x11 < (x0.length : Int) then (if ((rd_T48 x0 x11).f2) = 0 then (if x2 = (wrap64 (3 - ((rd_T48 x0 x11).f1))) then (if x3 = 1 then (impl_Reply.j1 k x2 x3 x10 x11 true ((rd_T48 x0 x11).f0) ((rd_T48 x0 x11).f1) ((rd_T48 x0 x11).f2)) else (impl_Reply.j1 k x2 x3 x10 x11 (x3 == 2) ((rd_T48 x0 x11).f0) ((rd_T48 x0 x11).f1) ((rd_T48 x0 x11).f2))) else (impl_Reply.j1 k x2 x3 x10 x11 false ((rd_T48 x0 x11).f0) ((rd_T48 x0 x11).f1) ((rd_T48 x0 x11).f2))) else (impl_Reply.j1 k x2 x3 x10 x11 false ((rd_T48 x0 x11).f0) ((rd_T48 x0 x11).f1) ((rd_T48 x0 x11).f2))) else (none)) else (none))
def impl_Reply.j1 : Nat → Int → Int → List (S48) → Int → Bool → Int → Int → Int → Option ((List (S48)) × Bool)
  | 0, _, _, _, _, _, _, _, _ => none
  | k + 1, x2, x3, x10, x11, x31, x160000, x160001, x160002 => if x31 = true then (if 0 ≤ x11 then (if x11 < (x10.length : Int) then (some ((x10.set (x11 : Int).toNat (⟨(rd_T48 x10 x11).f0, (rd_T48 x10 x11).f1, x3⟩ : S48)), true)) else (none)) else (none)) else (if x160002 = 2 then (if x2 = x160001 then (if x3 = 3 then (if 0 ≤ x11 then (if x11 < (x10.length : Int) then (some ((x10.set (x11 : Int).toNat (⟨(rd_T48 x10 x11).f0, (rd_T48 x10 x11).f1, x3⟩ : S48)), true)) else (none)) else (none)) else (if x3 = 4 then (if 0 ≤ x11 then (if x11 < (x10.length : Int) then (some ((x10.set (x11 : Int).toNat (⟨(rd_T48 x10 x11).f0, (rd_T48 x10 x11).f1, x3⟩ : S48)), true)) else (none)) else (none)) else (some (x10, false)))) else (some (x10, false))) else (some (x10, false)))
end
def impl_Reply.f (k : Nat) (l0 : List (S48)) (a1 : Int) (a2 : Int) (a3 : Int) : Option ((List (S48)) × Bool) := (impl_Point_35.f l0).bind fun t153 => ((impl_pointAt.f k l0 a1).bind fun t156 => ((impl_ArePoints.f k l0).bind fun t157 => (if t157 = true then (impl_Reply.j0 k l0 a2 a3 t153 t156 (decide (t156 < 0))) else (impl_Reply.j0 k l0 a2 a3 t153 t156 true))))
theorem impl_Reply.mono_l : ∀ k, (∀ y0 y1 y2 y3 y4 y5, LeO (impl_Reply.j0 k y0 y1 y2 y3 y4 y5) (impl_Reply.j0 (k + 1) y0 y1 y2 y3 y4 y5)) ∧ (∀ y0 y1 y2 y3 y4 y5 y6 y7, LeO (impl_Reply.j1 k y0 y1 y2 y3 y4 y5 y6 y7) (impl_Reply.j1 (k + 1) y0 y1 y2 y3 y4 y5 y6 y7))
  | 0 => ⟨fun _ _ _ _ _ _ r h => by simp [impl_Reply.j0] at h, fun _ _ _ _ _ _ _ _ r h => by simp [impl_Reply.j1] at h⟩
  | k + 1 => by
    obtain ⟨ih0, ih1⟩ := impl_Reply.mono_l k
    refine ⟨?_, ?_⟩
    · intro y0 y1 y2 y3 y4 y5
      unfold impl_Reply.j0
      repeat' first
      | (with_reducible exact ih0 _ _ _ _ _ _)
      | (with_reducible exact ih1 _ _ _ _ _ _ _ _)
      | (with_reducible exact impl_ArePoints.mono _ _)
      | (with_reducible exact impl_pointAt.mono _ _ _)
      | (with_reducible exact LeO.refl _)
      | (with_reducible exact LeO.none _)
      | (with_reducible refine LeO.ite ?_ ?_)
      | (with_reducible refine LeO.bind ?_ (fun _ => ?_))
      | exact ih0 _ _ _ _ _ _
      | exact ih1 _ _ _ _ _ _ _ _
      | exact impl_ArePoints.mono _ _
      | exact impl_pointAt.mono _ _ _
      | exact LeO.none _
      | refine LeO.ite ?_ ?_
      | refine LeO.bind ?_ (fun _ => ?_)
    · intro y0 y1 y2 y3 y4 y5 y6 y7
      unfold impl_Reply.j1
      repeat' first
      | (with_reducible exact ih0 _ _ _ _ _ _)
      | (with_reducible exact ih1 _ _ _ _ _ _ _ _)
      | (with_reducible exact impl_ArePoints.mono _ _)
      | (with_reducible exact impl_pointAt.mono _ _ _)
      | (with_reducible exact LeO.refl _)
      | (with_reducible exact LeO.none _)
      | (with_reducible refine LeO.ite ?_ ?_)
      | (with_reducible refine LeO.bind ?_ (fun _ => ?_))
      | exact ih0 _ _ _ _ _ _
      | exact ih1 _ _ _ _ _ _ _ _
      | exact impl_ArePoints.mono _ _
      | exact impl_pointAt.mono _ _ _
      | exact LeO.none _
      | refine LeO.ite ?_ ?_
      | refine LeO.bind ?_ (fun _ => ?_)
theorem impl_Reply.mono : ∀ a0 a1 a2 a3 k, LeO (impl_Reply.f k a0 a1 a2 a3) (impl_Reply.f (k + 1) a0 a1 a2 a3) := by
  intro a0 a1 a2 a3 k
  obtain ⟨ih0, ih1⟩ := impl_Reply.mono_l k
  unfold impl_Reply.f
  repeat' first
      | (with_reducible exact ih0 _ _ _ _ _ _)
      | (with_reducible exact ih1 _ _ _ _ _ _ _ _)
      | (with_reducible exact impl_ArePoints.mono _ _)
      | (with_reducible exact impl_pointAt.mono _ _ _)
      | (with_reducible exact LeO.refl _)
      | (with_reducible exact LeO.none _)
      | (with_reducible refine LeO.ite ?_ ?_)
      | (with_reducible refine LeO.bind ?_ (fun _ => ?_))
      | exact ih0 _ _ _ _ _ _
      | exact ih1 _ _ _ _ _ _ _ _
      | exact impl_ArePoints.mono _ _
      | exact impl_pointAt.mono _ _ _
      | exact LeO.none _
      | refine LeO.ite ?_ ?_
      | refine LeO.bind ?_ (fun _ => ?_)
set_option maxHeartbeats 8000000 in
set_option maxRecDepth 100000 in
theorem impl_Reply.calls (k : Nat) (A0 : Option Addr) (c0 : Nat) (l0 : List (S48)) (a1 : Int) (a2 : Int) (a3 : Int) (r1 : List (S48)) (r2 : Bool) (w : World) (hr0 : Kd.C k48 w A0 l0.length l0) (hc0 : l0.length ≤ c0) (h : impl_Reply.f k l0 a1 a2 a3 = some (r1, r2)) :
    Calls Try.prog 17 #[.slice A0 l0.length c0, .int .i64 a1, .int .i64 a2, .int .i64 a3] w fun e w' => ∃ v0_ : Value, e = .returned (.tuple #[v0_, .bool r2]) ∧ Kd.R k48 48 w' w.heap.size (fun _ => True) v0_ r1 ∧ Below w.heap.size w w' := by
  have hu48 := Try.underlying48
  have HR0 := Aside0.mk hr0
  have HC0 := Aside0.mk hc0
  clear hr0 hc0
  have HB := Aside0.mk (Below.refl w.heap.size w)
  have H : ((impl_Point_35.f l0).bind fun t153 => ((impl_pointAt.f k l0 a1).bind fun t156 => ((impl_ArePoints.f k l0).bind fun t157 => (if t157 = true then (impl_Reply.j0 k l0 a2 a3 t153 t156 (decide (t156 < 0))) else (impl_Reply.j0 k l0 a2 a3 t153 t156 true))))) = some (r1, r2) := h
  clear h
  replace H := Option.bind_eq_some_iff.mp H
  obtain ⟨t153, A50, H⟩ := H
  replace H : ((impl_pointAt.f k l0 a1).bind fun t156 => ((impl_ArePoints.f k l0).bind fun t157 => (if t157 = true then (impl_Reply.j0 k l0 a2 a3 t153 t156 (decide (t156 < 0))) else (impl_Reply.j0 k l0 a2 a3 t153 t156 true)))) = some (r1, r2) := H
  have A5 := Aside0.mk A50
  clear A50
  replace H := Option.bind_eq_some_iff.mp H
  obtain ⟨t156, A60, H⟩ := H
  replace H : ((impl_ArePoints.f k l0).bind fun t157 => (if t157 = true then (impl_Reply.j0 k l0 a2 a3 t153 t156 (decide (t156 < 0))) else (impl_Reply.j0 k l0 a2 a3 t153 t156 true))) = some (r1, r2) := H
  have A6 := Aside0.mk A60
  clear A60
  have HC7 := Aside0.mk H
  clear H
  go_enter Try.func17, Try.ntmps17
  go_upto_region 3 with (first | ((with_reducible refine gate_callee (f := 35) rfl ?_); refine goesL_ (some 14) rfl rfl Try.func35 (by kernel_rfl) rfl #[.slice A0 l0.length c0] rfl (by (try simp only [List.map_toArray, List.map_cons, List.map_nil]); first | done | rfl | (simp only [List.length_drop, List.length_take]; rfl)) ?_; (with_reducible refine (impl_Point_35.calls _ _ l0 t153 _ ?side1 ?side2 A5.out).mono ?_); (case side1 => repeat (first | exact HR0.out | (with_reducible refine Kd.C_alloc ?_ _) | (with_reducible refine Kd.C_drewN ?_ _) | (with_reducible refine Kd.C_drew ?_))); (case side2 => exact HC0.out); rintro e w8 ⟨v154, rfl, ho0, hb⟩; refine ⟨_, rfl, ?_⟩; have n0_ := Aside0.mk (Kd.R_lower ho0 (below_size (by repeat (first | (with_reducible first | exact HB.out | apply below_alloc | apply pw_below_drewN | apply below_drew1) | exact HB.out)))); have n1_ := Aside0.mk (below_step (by repeat (first | (with_reducible first | exact HB.out | apply below_alloc | apply pw_below_drewN | apply below_drew1) | exact HB.out)) hb); clear HB; have HO155 := n0_; have HB := n1_; clear n0_ n1_; (try clear hb); (try clear hb2); (try clear hk); (try clear hi); (try clear ho0)) | ((with_reducible refine gate_callee (f := 36) rfl ?_); refine goesL_ (some 17) rfl rfl Try.func36 (by kernel_rfl) rfl #[.slice A0 l0.length c0, .int .i64 a1] rfl (by (try simp only [List.map_toArray, List.map_cons, List.map_nil]); first | done | rfl | (simp only [List.length_drop, List.length_take]; rfl)) ?_; (with_reducible refine (impl_pointAt.calls k _ _ l0 a1 t156 _ ?side1 ?side2 A6.out).mono ?_); (case side1 => repeat (first | exact (Kd.C_below HR0.out HB.out) | (with_reducible refine Kd.C_alloc ?_ _) | (with_reducible refine Kd.C_drewN ?_ _) | (with_reducible refine Kd.C_drew ?_))); (case side2 => exact HC0.out); rintro e w9 ⟨rfl, hb⟩; refine ⟨_, rfl, ?_⟩; have n0_ := Aside0.mk (Kd.R_below (by (with_reducible repeat (first | apply Kd.R_alloc | apply Kd.R_drewN | apply Kd.R_drew)); exact HO155.out) hb); have n1_ := Aside0.mk (below_step (by repeat (first | (with_reducible first | exact HB.out | apply below_alloc | apply pw_below_drewN | apply below_drew1) | exact HB.out)) hb); clear HO155; clear HB; have HO155 := n0_; have HB := n1_; clear n0_ n1_; (try clear hb); (try clear hb2); (try clear hk); (try clear hi)))
  (try simp only [Act.put, List.setIfInBounds_toArray, List.set_cons_zero, List.set_cons_succ])
  go_cut [24] (fun v24 wc => ∃ (kq : Nat) (x24_6 : Bool), v24 = .bool x24_6 ∧ Aside0 (impl_Reply.j0 kq l0 a2 a3 t153 t156 x24_6 = some (r1, r2)) ∧ Aside0 (kq ≤ k) ∧ Aside0 (Kd.R k48 48 wc w.heap.size (fun _ => True) v154 t153) ∧ Aside0 (Below w.heap.size w wc))
  case first =>
    have H := HC7.out
    clear HC7
    replace H := Option.bind_eq_some_iff.mp H
    obtain ⟨t157, A100, H⟩ := H
    replace H : (if t157 = true then (impl_Reply.j0 k l0 a2 a3 t153 t156 (decide (t156 < 0))) else (impl_Reply.j0 k l0 a2 a3 t153 t156 true)) = some (r1, r2) := H
    have A10 := Aside0.mk A100
    clear A100
    by_cases c11 : t157 = true
    · subst c11
      have H1 : (impl_Reply.j0 k l0 a2 a3 t153 t156 (decide (t156 < 0))) = some (r1, r2) := by rw [if_pos rfl] at H; exact H
      clear H
      have H := H1
      clear H1
      have H' := Aside0.mk H
      clear H
      go_wp2_with (first | ((with_reducible refine gate_callee (f := 23) rfl ?_); refine goesL_ (some 19) rfl rfl Try.func23 (by kernel_rfl) rfl #[.slice A0 l0.length c0] rfl (by (try simp only [List.map_toArray, List.map_cons, List.map_nil]); first | done | rfl | (simp only [List.length_drop, List.length_take]; rfl)) ?_; (with_reducible refine (impl_ArePoints.calls k _ _ l0 true _ ?side1 ?side2 A10.out).mono ?_); (case side1 => repeat (first | exact (Kd.C_below HR0.out HB.out) | (with_reducible refine Kd.C_alloc ?_ _) | (with_reducible refine Kd.C_drewN ?_ _) | (with_reducible refine Kd.C_drew ?_))); (case side2 => exact HC0.out); rintro e w12 ⟨rfl, hb⟩; refine ⟨_, rfl, ?_⟩; have n0_ := Aside0.mk (Kd.R_below (by (with_reducible repeat (first | apply Kd.R_alloc | apply Kd.R_drewN | apply Kd.R_drew)); exact HO155.out) hb); have n1_ := Aside0.mk (below_step (by repeat (first | (with_reducible first | exact HB.out | apply below_alloc | apply pw_below_drewN | apply below_drew1) | exact HB.out)) hb); clear HO155; clear HB; have HO155 := n0_; have HB := n1_; clear n0_ n1_; (try clear hb); (try clear hb2); (try clear hk); (try clear hi)))
      go_meet
      case rel => exact ⟨_, (decide (t156 < 0)), (by first | rfl | (simp; done) | (simp [*]; done)), H', ⟨by first | omega | exact Nat.le_refl _⟩, ⟨by (with_reducible repeat (first | apply Kd.R_alloc | apply Kd.R_drewN | apply Kd.R_drew)); exact HO155.out⟩, ⟨by repeat (first | (with_reducible first | exact HB.out | apply below_alloc | apply pw_below_drewN | apply below_drew1) | exact HB.out)⟩⟩
    · replace c11 := Bool.eq_false_iff.mpr c11
      subst c11
      have H1 : (impl_Reply.j0 k l0 a2 a3 t153 t156 true) = some (r1, r2) := by rw [if_neg (show ¬ (false = true) by decide)] at H; exact H
      clear H
      have H := H1
      clear H1
      have H' := Aside0.mk H
      clear H
      go_wp2_with (first | ((with_reducible refine gate_callee (f := 23) rfl ?_); refine goesL_ (some 19) rfl rfl Try.func23 (by kernel_rfl) rfl #[.slice A0 l0.length c0] rfl (by (try simp only [List.map_toArray, List.map_cons, List.map_nil]); first | done | rfl | (simp only [List.length_drop, List.length_take]; rfl)) ?_; (with_reducible refine (impl_ArePoints.calls k _ _ l0 false _ ?side1 ?side2 A10.out).mono ?_); (case side1 => repeat (first | exact (Kd.C_below HR0.out HB.out) | (with_reducible refine Kd.C_alloc ?_ _) | (with_reducible refine Kd.C_drewN ?_ _) | (with_reducible refine Kd.C_drew ?_))); (case side2 => exact HC0.out); rintro e w13 ⟨rfl, hb⟩; refine ⟨_, rfl, ?_⟩; have n0_ := Aside0.mk (Kd.R_below (by (with_reducible repeat (first | apply Kd.R_alloc | apply Kd.R_drewN | apply Kd.R_drew)); exact HO155.out) hb); have n1_ := Aside0.mk (below_step (by repeat (first | (with_reducible first | exact HB.out | apply below_alloc | apply pw_below_drewN | apply below_drew1) | exact HB.out)) hb); clear HO155; clear HB; have HO155 := n0_; have HB := n1_; clear n0_ n1_; (try clear hb); (try clear hb2); (try clear hk); (try clear hi)))
      go_meet
      case rel => exact ⟨_, (true), (by first | rfl | (simp; done) | (simp [*]; done)), H', ⟨by first | omega | exact Nat.le_refl _⟩, ⟨by (with_reducible repeat (first | apply Kd.R_alloc | apply Kd.R_drewN | apply Kd.R_drew)); exact HO155.out⟩, ⟨by repeat (first | (with_reducible first | exact HB.out | apply below_alloc | apply pw_below_drewN | apply below_drew1) | exact HB.out)⟩⟩
  case rest =>
    clear HC7
    try clear c1
    try clear c2
    try clear p2
    try clear c3
    try clear c11
    obtain ⟨kq, x24_6, rfl, HA, HJ6, HO_10, HB⟩ := hcut
    cases kq with
    | zero => exact absurd HA.out (by simp [impl_Reply.j0])
    | succ kj6 =>
      have H := HA.out
      clear HA
      simp only [impl_Reply.j0] at H
      by_cases c14 : x24_6 = true
      · subst c14
        have H1 : (some (t153, false)) = some (r1, r2) := by rw [if_pos rfl] at H; exact H
        clear H
        have H := H1
        clear H1
        simp only [Option.some.injEq, Prod.mk.injEq] at H
        obtain ⟨rfl, rfl⟩ := H
        go_wp2
        go_ret2
        exact ⟨_, by first | rfl | (simp [errW_none, errW_some] <;> rfl) | (simp [*, errW_none, errW_some] <;> rfl), by (with_reducible repeat (first | apply Kd.R_alloc | apply Kd.R_drewN | apply Kd.R_drew)); exact HO_10.out, by repeat (first | (with_reducible first | exact HB.out | apply below_alloc | apply pw_below_drewN | apply below_drew1) | exact HB.out)⟩
      · replace c14 := Bool.eq_false_iff.mpr c14
        subst c14
        have H1 : (if 0 ≤ t156 then (if t156 < (l0.length : Int) then (if ((rd_T48 l0 t156).f2) = 0 then (if a2 = (wrap64 (3 - ((rd_T48 l0 t156).f1))) then (if a3 = 1 then (impl_Reply.j1 kj6 a2 a3 t153 t156 true ((rd_T48 l0 t156).f0) ((rd_T48 l0 t156).f1) ((rd_T48 l0 t156).f2)) else (impl_Reply.j1 kj6 a2 a3 t153 t156 (a3 == 2) ((rd_T48 l0 t156).f0) ((rd_T48 l0 t156).f1) ((rd_T48 l0 t156).f2))) else (impl_Reply.j1 kj6 a2 a3 t153 t156 false ((rd_T48 l0 t156).f0) ((rd_T48 l0 t156).f1) ((rd_T48 l0 t156).f2))) else (impl_Reply.j1 kj6 a2 a3 t153 t156 false ((rd_T48 l0 t156).f0) ((rd_T48 l0 t156).f1) ((rd_T48 l0 t156).f2))) else (none)) else (none)) = some (r1, r2) := by rw [if_neg (show ¬ (false = true) by decide)] at H; exact H
        clear H
        have H := H1
        clear H1
        by_cases c15 : 0 ≤ t156
        · rw [if_pos c15] at H
          have c15b0 : decide (0 ≤ t156) = true := decide_eq_true c15
          clear c15
          by_cases c16 : t156 < (l0.length : Int)
          · rw [if_pos c16] at H
            have c16b0 : decide (t156 < (l0.length : Int)) = true := decide_eq_true c16
            clear c16
            have HC17 := Aside0.mk H
            clear H
            have p158 : 0 ≤ (t156 : Int) := of_decide_eq_true (by first | (with_reducible assumption) | assumption)
            have q158 : t156 < (l0.length : Int) := of_decide_eq_true (by first | (with_reducible assumption) | assumption)
            obtain ⟨ad158, e158, hx158_0, hx158_1, hx158_2⟩ := at_T48 HR0.out t156 p158 q158
            cases e158
            replace hx158_0 := (HB.out.cell (World.block_lt_of_cell? w _ hx158_0)).trans hx158_0
            replace hx158_1 := (HB.out.cell (World.block_lt_of_cell? w _ hx158_1)).trans hx158_1
            replace hx158_2 := (HB.out.cell (World.block_lt_of_cell? w _ hx158_2)).trans hx158_2
            replace p158 := eq_true p158
            replace q158 := eq_true q158
            go_upto_region 7 with (first | ((with_reducible refine gate_dst (N := 12) rfl ?_); refine box_event ?hg (N := 12) ?hd (cs := #[.int .i64 0, .int .i64 0, .int .i64 0]) (t := 48) ?hr ?_; (case hd => rfl); (case hg => rfl); (case hr => first | (go_simp; done) | (go_simp; rfl)); intro gb159 hg w18 hbox hb; have n0_ := Aside0.mk (Kd.R_below (Kd.R_elderB (by (with_reducible repeat (first | apply Kd.R_alloc | apply Kd.R_drewN | apply Kd.R_drew)); exact HO_10.out) gb159 (Nat.le_of_eq hg.symm)) hb); have n1_ := Aside0.mk (below_step (by repeat (first | (with_reducible first | exact HB.out | apply below_alloc | apply pw_below_drewN | apply below_drew1) | exact HB.out)) hb); have n2_ := Aside0.mk (hbox); have n3_ := Aside0.mk ((by rw [hg]; exact (below_size (by repeat (first | (with_reducible first | exact HB.out | apply below_alloc | apply pw_below_drewN | apply below_drew1) | exact HB.out))) : w.heap.size ≤ gb159)); have n4_ := Aside0.mk ((by rw [hg]; exact (below_size (by repeat (first | (with_reducible first | exact HB.out | apply below_alloc | apply pw_below_drewN | apply below_drew1) | exact HB.out))) : w.heap.size ≤ gb159)); clear HO_10; clear HB; have HO_10 := n0_; have HB := n1_; have BK159 := n2_; have GW159 := n3_; have GE159 := n4_; clear n0_ n1_ n2_ n3_ n4_; clear hb hbox hg; have hcz19_0 : w18.cell? ⟨gb159, 0, none⟩ = some (.int .i64 0) := (blk_cell BK159.out 0).trans rfl; have hcz19_1 : w18.cell? ⟨gb159, 1, none⟩ = some (.int .i64 0) := (blk_cell BK159.out 1).trans rfl; have hcz19_2 : w18.cell? ⟨gb159, 2, none⟩ = some (.int .i64 0) := (blk_cell BK159.out 2).trans rfl; have hfz19_0 := blk_frozen BK159.out 0; have hfz19_1 := blk_frozen BK159.out 1; have hfz19_2 := blk_frozen BK159.out 2))
            (try simp only [Act.put, List.setIfInBounds_toArray, List.set_cons_zero, List.set_cons_succ])
            go_cut [31] (fun v31 wc => ∃ (kq : Nat) (x31_16 : Bool), v31 = .bool x31_16 ∧ Aside0 (impl_Reply.j1 kq a2 a3 t153 t156 x31_16 ((rd_T48 l0 t156).f0) ((rd_T48 l0 t156).f1) ((rd_T48 l0 t156).f2) = some (r1, r2)) ∧ Aside0 (kq ≤ kj6) ∧ Aside0 (Kd.R k48 48 wc w.heap.size (fun k_ => k_ ≠ gb159) v154 t153) ∧ Aside0 (wc.heap[gb159]? = some (.cells #[.int .i64 ((rd_T48 l0 t156).f0), .int .i64 ((rd_T48 l0 t156).f1), .int .i64 ((rd_T48 l0 t156).f2)] 48 (0, 0))) ∧ Aside0 (Below w.heap.size w wc))
            case first =>
              have H := HC17.out
              clear HC17
              by_cases c20 : ((rd_T48 l0 t156).f2) = 0
              · rw [if_pos c20] at H
                have c20b0 : (((rd_T48 l0 t156).f2) == 0) = true := beq_iff_eq.mpr c20
                have c20b1 : (((rd_T48 l0 t156).f2) != 0) = false := bne_eq_false_iff_eq.mpr c20
                clear c20
                (first | rw [c20b0] | (simp only [i64_w, i32_w]; rw [c20b0]) | skip)
                by_cases c21 : a2 = (wrap64 (3 - ((rd_T48 l0 t156).f1)))
                · rw [if_pos c21] at H
                  have c21b0 : (a2 == (wrap64 (3 - ((rd_T48 l0 t156).f1)))) = true := beq_iff_eq.mpr c21
                  have c21b1 : (a2 != (wrap64 (3 - ((rd_T48 l0 t156).f1)))) = false := bne_eq_false_iff_eq.mpr c21
                  clear c21
                  by_cases c22 : a3 = 1
                  · rw [if_pos c22] at H
                    have c22b0 : (a3 == 1) = true := beq_iff_eq.mpr c22
                    have c22b1 : (a3 != 1) = false := bne_eq_false_iff_eq.mpr c22
                    clear c22
                    have H' := Aside0.mk H
                    clear H
                    have hcz23_0 : w18.cell? ⟨gb159, 0, none⟩ = some (.int .i64 0) := (blk_cell BK159.out 0).trans rfl
                    have hcz23_1 : w18.cell? ⟨gb159, 1, none⟩ = some (.int .i64 0) := (blk_cell BK159.out 1).trans rfl
                    have hcz23_2 : w18.cell? ⟨gb159, 2, none⟩ = some (.int .i64 0) := (blk_cell BK159.out 2).trans rfl
                    have hfz23_0 := blk_frozen BK159.out 0
                    have hfz23_1 := blk_frozen BK159.out 1
                    have hfz23_2 := blk_frozen BK159.out 2
                    go_wp2
                    go_meet
                    case rel => exact ⟨_, (true), (by first | rfl | (simp; done) | (simp [*]; done)), H', ⟨by have := HJ6.out; first | omega | exact Nat.le_refl _⟩, ⟨by (with_reducible repeat (first | apply Kd.R_alloc | apply Kd.R_drewN | apply Kd.R_drew)); exact Kd.R_mono (Kd.R_far (p := ⟨gb159, 2, none⟩) (Kd.R_far (p := ⟨gb159, 1, none⟩) (Kd.R_far (p := ⟨gb159, 0, none⟩) (Kd.R_mono HO_10.out (fun k_ hk => (⟨hk, hk.2⟩ : _ ∧ k_ ≠ gb159))) (fun _ hk => hk.2) (.int .i64 ((rd_T48 l0 t156).f0))) (fun _ hk => hk.2) (.int .i64 ((rd_T48 l0 t156).f1))) (fun _ hk => hk.2) (.int .i64 ((rd_T48 l0 t156).f2))) (fun _ hk => hk.1.2)⟩, ⟨by (with_reducible repeat (first | refine blk_drewN ?_ _ | refine blk_drew ?_ | refine blk_alloc ?_ _)); refine blk_put (cs := #[.int .i64 ((rd_T48 l0 t156).f0), .int .i64 ((rd_T48 l0 t156).f1), .int .i64 0]) ?_ 2 _ rfl; (with_reducible repeat (first | refine blk_drewN ?_ _ | refine blk_drew ?_ | refine blk_alloc ?_ _)); refine blk_put (cs := #[.int .i64 ((rd_T48 l0 t156).f0), .int .i64 0, .int .i64 0]) ?_ 1 _ rfl; (with_reducible repeat (first | refine blk_drewN ?_ _ | refine blk_drew ?_ | refine blk_alloc ?_ _)); refine blk_put (cs := #[.int .i64 0, .int .i64 0, .int .i64 0]) ?_ 0 _ rfl; (with_reducible repeat (first | refine blk_drewN ?_ _ | refine blk_drew ?_ | refine blk_alloc ?_ _)); exact BK159.out⟩, ⟨by repeat (first | (with_reducible first | exact HB.out | apply below_alloc | apply pw_below_drewN | apply below_drew1 | refine below_set ?_ GE159.out) | exact HB.out)⟩⟩
                  · rw [if_neg c22] at H
                    have c22b0 : (a3 == 1) = false := beq_eq_false_iff_ne.mpr c22
                    have c22b1 : (a3 != 1) = true := bne_iff_ne.mpr c22
                    have H' := Aside0.mk H
                    clear H
                    have hcz24_0 : w18.cell? ⟨gb159, 0, none⟩ = some (.int .i64 0) := (blk_cell BK159.out 0).trans rfl
                    have hcz24_1 : w18.cell? ⟨gb159, 1, none⟩ = some (.int .i64 0) := (blk_cell BK159.out 1).trans rfl
                    have hcz24_2 : w18.cell? ⟨gb159, 2, none⟩ = some (.int .i64 0) := (blk_cell BK159.out 2).trans rfl
                    have hfz24_0 := blk_frozen BK159.out 0
                    have hfz24_1 := blk_frozen BK159.out 1
                    have hfz24_2 := blk_frozen BK159.out 2
                    go_wp2
                    go_meet
                    case rel => exact ⟨_, ((a3 == 2)), (by first | rfl | (simp; done) | (simp [*]; done)), H', ⟨by have := HJ6.out; first | omega | exact Nat.le_refl _⟩, ⟨by (with_reducible repeat (first | apply Kd.R_alloc | apply Kd.R_drewN | apply Kd.R_drew)); exact Kd.R_mono (Kd.R_far (p := ⟨gb159, 2, none⟩) (Kd.R_far (p := ⟨gb159, 1, none⟩) (Kd.R_far (p := ⟨gb159, 0, none⟩) (Kd.R_mono HO_10.out (fun k_ hk => (⟨hk, hk.2⟩ : _ ∧ k_ ≠ gb159))) (fun _ hk => hk.2) (.int .i64 ((rd_T48 l0 t156).f0))) (fun _ hk => hk.2) (.int .i64 ((rd_T48 l0 t156).f1))) (fun _ hk => hk.2) (.int .i64 ((rd_T48 l0 t156).f2))) (fun _ hk => hk.1.2)⟩, ⟨by (with_reducible repeat (first | refine blk_drewN ?_ _ | refine blk_drew ?_ | refine blk_alloc ?_ _)); refine blk_put (cs := #[.int .i64 ((rd_T48 l0 t156).f0), .int .i64 ((rd_T48 l0 t156).f1), .int .i64 0]) ?_ 2 _ rfl; (with_reducible repeat (first | refine blk_drewN ?_ _ | refine blk_drew ?_ | refine blk_alloc ?_ _)); refine blk_put (cs := #[.int .i64 ((rd_T48 l0 t156).f0), .int .i64 0, .int .i64 0]) ?_ 1 _ rfl; (with_reducible repeat (first | refine blk_drewN ?_ _ | refine blk_drew ?_ | refine blk_alloc ?_ _)); refine blk_put (cs := #[.int .i64 0, .int .i64 0, .int .i64 0]) ?_ 0 _ rfl; (with_reducible repeat (first | refine blk_drewN ?_ _ | refine blk_drew ?_ | refine blk_alloc ?_ _)); exact BK159.out⟩, ⟨by repeat (first | (with_reducible first | exact HB.out | apply below_alloc | apply pw_below_drewN | apply below_drew1 | refine below_set ?_ GE159.out) | exact HB.out)⟩⟩
                · rw [if_neg c21] at H
                  have c21b0 : (a2 == (wrap64 (3 - ((rd_T48 l0 t156).f1)))) = false := beq_eq_false_iff_ne.mpr c21
                  have c21b1 : (a2 != (wrap64 (3 - ((rd_T48 l0 t156).f1)))) = true := bne_iff_ne.mpr c21
                  have H' := Aside0.mk H
                  clear H
                  have hcz25_0 : w18.cell? ⟨gb159, 0, none⟩ = some (.int .i64 0) := (blk_cell BK159.out 0).trans rfl
                  have hcz25_1 : w18.cell? ⟨gb159, 1, none⟩ = some (.int .i64 0) := (blk_cell BK159.out 1).trans rfl
                  have hcz25_2 : w18.cell? ⟨gb159, 2, none⟩ = some (.int .i64 0) := (blk_cell BK159.out 2).trans rfl
                  have hfz25_0 := blk_frozen BK159.out 0
                  have hfz25_1 := blk_frozen BK159.out 1
                  have hfz25_2 := blk_frozen BK159.out 2
                  go_wp2
                  go_meet
                  case rel => exact ⟨_, (false), (by first | rfl | (simp; done) | (simp [*]; done)), H', ⟨by have := HJ6.out; first | omega | exact Nat.le_refl _⟩, ⟨by (with_reducible repeat (first | apply Kd.R_alloc | apply Kd.R_drewN | apply Kd.R_drew)); exact Kd.R_mono (Kd.R_far (p := ⟨gb159, 2, none⟩) (Kd.R_far (p := ⟨gb159, 1, none⟩) (Kd.R_far (p := ⟨gb159, 0, none⟩) (Kd.R_mono HO_10.out (fun k_ hk => (⟨hk, hk.2⟩ : _ ∧ k_ ≠ gb159))) (fun _ hk => hk.2) (.int .i64 ((rd_T48 l0 t156).f0))) (fun _ hk => hk.2) (.int .i64 ((rd_T48 l0 t156).f1))) (fun _ hk => hk.2) (.int .i64 ((rd_T48 l0 t156).f2))) (fun _ hk => hk.1.2)⟩, ⟨by (with_reducible repeat (first | refine blk_drewN ?_ _ | refine blk_drew ?_ | refine blk_alloc ?_ _)); refine blk_put (cs := #[.int .i64 ((rd_T48 l0 t156).f0), .int .i64 ((rd_T48 l0 t156).f1), .int .i64 0]) ?_ 2 _ rfl; (with_reducible repeat (first | refine blk_drewN ?_ _ | refine blk_drew ?_ | refine blk_alloc ?_ _)); refine blk_put (cs := #[.int .i64 ((rd_T48 l0 t156).f0), .int .i64 0, .int .i64 0]) ?_ 1 _ rfl; (with_reducible repeat (first | refine blk_drewN ?_ _ | refine blk_drew ?_ | refine blk_alloc ?_ _)); refine blk_put (cs := #[.int .i64 0, .int .i64 0, .int .i64 0]) ?_ 0 _ rfl; (with_reducible repeat (first | refine blk_drewN ?_ _ | refine blk_drew ?_ | refine blk_alloc ?_ _)); exact BK159.out⟩, ⟨by repeat (first | (with_reducible first | exact HB.out | apply below_alloc | apply pw_below_drewN | apply below_drew1 | refine below_set ?_ GE159.out) | exact HB.out)⟩⟩
              · rw [if_neg c20] at H
                have c20b0 : (((rd_T48 l0 t156).f2) == 0) = false := beq_eq_false_iff_ne.mpr c20
                have c20b1 : (((rd_T48 l0 t156).f2) != 0) = true := bne_iff_ne.mpr c20
                (first | rw [c20b0] | (simp only [i64_w, i32_w]; rw [c20b0]) | skip)
                have H' := Aside0.mk H
                clear H
                have hcz26_0 : w18.cell? ⟨gb159, 0, none⟩ = some (.int .i64 0) := (blk_cell BK159.out 0).trans rfl
                have hcz26_1 : w18.cell? ⟨gb159, 1, none⟩ = some (.int .i64 0) := (blk_cell BK159.out 1).trans rfl
                have hcz26_2 : w18.cell? ⟨gb159, 2, none⟩ = some (.int .i64 0) := (blk_cell BK159.out 2).trans rfl
                have hfz26_0 := blk_frozen BK159.out 0
                have hfz26_1 := blk_frozen BK159.out 1
                have hfz26_2 := blk_frozen BK159.out 2
                go_wp2
                go_meet
                case rel => exact ⟨_, (false), (by first | rfl | (simp; done) | (simp [*]; done)), H', ⟨by have := HJ6.out; first | omega | exact Nat.le_refl _⟩, ⟨by (with_reducible repeat (first | apply Kd.R_alloc | apply Kd.R_drewN | apply Kd.R_drew)); exact Kd.R_mono (Kd.R_far (p := ⟨gb159, 2, none⟩) (Kd.R_far (p := ⟨gb159, 1, none⟩) (Kd.R_far (p := ⟨gb159, 0, none⟩) (Kd.R_mono HO_10.out (fun k_ hk => (⟨hk, hk.2⟩ : _ ∧ k_ ≠ gb159))) (fun _ hk => hk.2) (.int .i64 ((rd_T48 l0 t156).f0))) (fun _ hk => hk.2) (.int .i64 ((rd_T48 l0 t156).f1))) (fun _ hk => hk.2) (.int .i64 ((rd_T48 l0 t156).f2))) (fun _ hk => hk.1.2)⟩, ⟨by (with_reducible repeat (first | refine blk_drewN ?_ _ | refine blk_drew ?_ | refine blk_alloc ?_ _)); refine blk_put (cs := #[.int .i64 ((rd_T48 l0 t156).f0), .int .i64 ((rd_T48 l0 t156).f1), .int .i64 0]) ?_ 2 _ rfl; (with_reducible repeat (first | refine blk_drewN ?_ _ | refine blk_drew ?_ | refine blk_alloc ?_ _)); refine blk_put (cs := #[.int .i64 ((rd_T48 l0 t156).f0), .int .i64 0, .int .i64 0]) ?_ 1 _ rfl; (with_reducible repeat (first | refine blk_drewN ?_ _ | refine blk_drew ?_ | refine blk_alloc ?_ _)); refine blk_put (cs := #[.int .i64 0, .int .i64 0, .int .i64 0]) ?_ 0 _ rfl; (with_reducible repeat (first | refine blk_drewN ?_ _ | refine blk_drew ?_ | refine blk_alloc ?_ _)); exact BK159.out⟩, ⟨by repeat (first | (with_reducible first | exact HB.out | apply below_alloc | apply pw_below_drewN | apply below_drew1 | refine below_set ?_ GE159.out) | exact HB.out)⟩⟩
            case rest =>
              clear HC17
              try clear c1
              try clear p1
              try clear q1
              try clear hx1
              try clear c2
              try clear p2
              try clear c3
              try clear p6
              try clear c11
              try clear c14
              try clear c15
              try clear c15b0
              try clear p15
              try clear q15
              try clear hx15
              try clear c16
              try clear c16b0
              try clear c17
              try clear c20
              try clear c20b0
              try clear c20b1
              try clear c21
              try clear c21b0
              try clear c21b1
              try clear c22
              try clear c22b0
              try clear c22b1
              try clear c23
              try clear hcz19_0
              try clear hcz19_1
              try clear hcz19_2
              try clear hcz23_0
              try clear hcz23_1
              try clear hcz23_2
              try clear hcz24_0
              try clear hcz24_1
              try clear hcz24_2
              try clear hcz25_0
              try clear hcz25_1
              try clear hcz25_2
              try clear hcz26_0
              try clear hcz26_1
              try clear hcz26_2
              try clear hfz19_0
              try clear hfz19_1
              try clear hfz19_2
              try clear hfz23_0
              try clear hfz23_1
              try clear hfz23_2
              try clear hfz24_0
              try clear hfz24_1
              try clear hfz24_2
              try clear hfz25_0
              try clear hfz25_1
              try clear hfz25_2
              try clear hfz26_0
              try clear hfz26_1
              try clear hfz26_2
              try clear hx158_0
              try clear hx158_1
              try clear hx158_2
              try clear p158
              try clear p2
              try clear q158
              obtain ⟨kq, x31_16, rfl, HA, HJ16, HO_10, BK159, HB⟩ := hcut
              cases kq with
              | zero => exact absurd HA.out (by simp [impl_Reply.j1])
              | succ kj16 =>
                have H := HA.out
                clear HA
                simp only [impl_Reply.j1] at H
                by_cases c27 : x31_16 = true
                · subst c27
                  have H1 : (if 0 ≤ t156 then (if t156 < (t153.length : Int) then (some ((t153.set (t156 : Int).toNat (⟨(rd_T48 t153 t156).f0, (rd_T48 t153 t156).f1, a3⟩ : S48)), true)) else (none)) else (none)) = some (r1, r2) := by rw [if_pos rfl] at H; exact H
                  clear H
                  have H := H1
                  clear H1
                  by_cases c28 : 0 ≤ t156
                  · rw [if_pos c28] at H
                    have c28b0 : decide (0 ≤ t156) = true := decide_eq_true c28
                    clear c28
                    by_cases c29 : t156 < (t153.length : Int)
                    · rw [if_pos c29] at H
                      have c29b0 : decide (t156 < (t153.length : Int)) = true := decide_eq_true c29
                      clear c29
                      obtain ⟨y160, hy160⟩ : ∃ y_ : List (S48), y_ = (t153.set (t156 : Int).toNat (⟨(rd_T48 t153 t156).f0, (rd_T48 t153 t156).f1, a3⟩ : S48)) := ⟨_, rfl⟩
                      replace H : (some (y160, true)) = some (r1, r2) := by first | (rw [hy160]; with_reducible exact H) | (have H2_ := (Option.bind_some _ _).symm.trans H; rw [hy160]; with_reducible exact H2_) | (have H2_ := (Option.bind_some _ _).symm.trans H; with_reducible exact H2_) | with_reducible exact H | (rw [hy160]; exact H) | exact H
                      have Ny160 := Aside0.mk hy160
                      clear hy160
                      simp only [Option.some.injEq, Prod.mk.injEq] at H
                      obtain ⟨rfl, rfl⟩ := H
                      have p30 : 0 ≤ (t156 : Int) := of_decide_eq_true (by first | (with_reducible assumption) | assumption)
                      have q30 : (t156 : Int) < ((t153.length : Int) : Int) := of_decide_eq_true (by first | (with_reducible assumption) | assumption)
                      obtain ⟨go30, co30, eo30, gb30, gl30, cl30, HG30⟩ := Kd.R_form HO_10.out (by omega)
                      (first | cases eo30 | (injection eo30 with ea_ en_ ec_; (first | subst ea_ | (injection ea_ with ea_; subst ea_)); subst ec_; clear en_))
                      have GB30 := Aside0.mk gb30
                      have GG30 := Aside0.mk HG30
                      clear gb30 gl30 HG30
                      obtain ⟨ce30, hcl30, hM30, hcc30, hfr30⟩ := Kd.R_elem HO_10.out z48 (t156 : Int) p30 q30
                      obtain rfl := k48_openM hM30
                      have hx30_0 : wc.cell? ⟨go30, (t156 : Int).toNat * 3, none⟩ = some (.int .i64 ((rd_T48 t153 t156).f0)) := hcc30 0 _ rfl
                      have hx30_1 : wc.cell? ⟨go30, (t156 : Int).toNat * 3 + 1, none⟩ = some (.int .i64 ((rd_T48 t153 t156).f1)) := hcc30 1 _ rfl
                      have hx30_2 : wc.cell? ⟨go30, (t156 : Int).toNat * 3 + 2, none⟩ = some (.int .i64 ((rd_T48 t153 t156).f2)) := hcc30 2 _ rfl
                      have hf30_0 : wc.frozen? ⟨go30, (t156 : Int).toNat * 3, none⟩ = false := hfr30 0
                      have hf30_1 : wc.frozen? ⟨go30, (t156 : Int).toNat * 3 + 1, none⟩ = false := hfr30 1
                      have hf30_2 : wc.frozen? ⟨go30, (t156 : Int).toNat * 3 + 2, none⟩ = false := hfr30 2
                      (try clear hM30); clear hcl30 hcc30 hfr30
                      replace p30 := eq_true p30
                      replace q30 := eq_true q30
                      have HX31 := Aside0.mk (show Kd.R k48 48 wc w.heap.size (fun k_ => k_ ≠ gb159) (.slice (some ⟨go30, 0, none⟩) t153.length co30) t153 from (by (with_reducible repeat (first | apply Kd.R_alloc | apply Kd.R_drewN | apply Kd.R_drew)); exact HO_10.out))
                      obtain ⟨ce31, hcl31, hM31, hcc31, hfr31⟩ := Kd.R_elem HX31.out z48 (t156 : Int) (of_decide_eq_true (by first | (with_reducible assumption) | assumption)) (by have h_ : (t156 : Int) < ((t153.length : Int) : Int) := of_decide_eq_true (by first | (with_reducible assumption) | assumption); first | exact h_ | (have e_ := (Kd.R_reads' HO_10.out).1; omega) | simpa using h_)
                      obtain rfl := k48_openM hM31
                      have HP31 := Kd.R_seg HX31.out (t156 : Int) (of_decide_eq_true (by first | (with_reducible assumption) | assumption)) (by have h_ : (t156 : Int) < ((t153.length : Int) : Int) := of_decide_eq_true (by first | (with_reducible assumption) | assumption); first | exact h_ | (have e_ := (Kd.R_reads' HO_10.out).1; omega) | simpa using h_) (seg := [.int .i64 a3]) (j := 2) hcl31 hcc31 (show 3 ≤ 3 from by decide) (x' := (⟨(rd_T48 t153 t156).f0, (rd_T48 t153 t156).f1, a3⟩ : S48)) (k48_mkM _ _ _ (⟨(rd_T48 t153 t156).f0, (rd_T48 t153 t156).f1, a3⟩ : S48) ) (fun _ hk => hk)
                      have hx31_2 := hcc31 2 _ rfl
                      (try simp only [show (k48).sz = 3 from rfl, Nat.mul_one, Nat.add_zero] at hx31_2)
                      have hf31_2 := hfr31 2
                      (try simp only [show (k48).sz = 3 from rfl, Nat.mul_one, Nat.add_zero] at hf31_2)
                      (try clear hM31); clear hcl31 hcc31 hfr31
                      go_wp2_with (first | ((with_reducible refine gate_store (t := 3) (p := 72) rfl ?_); refine store_event (t := 3) (p := 72) (v := ?vo_w32) (w1 := (wc.setCell ⟨go30, (t156 : Int).toNat * 3 + 2, none⟩ (.int .i64 a3))) ?hg ?ho ?hn ?hr ?_; (case ho => rfl); (case hg => rfl); (case hn => rfl); (case hr => first | (go_simp; done) | (go_simp; rfl)); intro w32 hw; have hg : wc.grownBy w32 (some go30) := (by rw [hw]; exact HP31.2); have hp_ : Kd.R k48 48 w32 w.heap.size (fun k_ => k_ ≠ gb159) (.slice (some ⟨go30, 0, none⟩) t153.length co30) y160 := (by rw [hw, Ny160.out]; exact HP31.1); clear HP31; have n0_ := Aside0.mk (hp_); have n1_ := Aside0.mk (blk_grown (g := gb159) (o := .cells #[.int .i64 ((rd_T48 l0 t156).f0), .int .i64 ((rd_T48 l0 t156).f1), .int .i64 ((rd_T48 l0 t156).f2)] 48 (0, 0)) (by (with_reducible repeat (first | refine blk_drewN ?_ _ | refine blk_drew ?_ | refine blk_alloc ?_ _)); exact BK159.out) hg (Kd.R_away HO_10.out (fun _ hk => hk))); have n2_ := Aside0.mk ((by rw [hw]; exact below_set (HB.out) GB30.out : Below w.heap.size w w32)); clear HO_10; clear BK159; clear HB; have HO_10 := n0_; have BK159 := n1_; have HB := n2_; clear n0_ n1_ n2_; clear hg hw hp_))
                      go_ret2
                      exact ⟨_, by first | rfl | (simp [errW_none, errW_some] <;> rfl) | (simp [*, errW_none, errW_some] <;> rfl), by (with_reducible repeat (first | apply Kd.R_alloc | apply Kd.R_drewN | apply Kd.R_drew)); exact Kd.R_mono HO_10.out (fun _ hk => trivial), by repeat (first | (with_reducible first | exact HB.out | apply below_alloc | apply pw_below_drewN | apply below_drew1 | refine below_set ?_ GE159.out) | exact HB.out)⟩
                    · rw [if_neg c29] at H
                      exact absurd H (by simp)
                  · rw [if_neg c28] at H
                    exact absurd H (by simp)
                · replace c27 := Bool.eq_false_iff.mpr c27
                  subst c27
                  have H1 : (if ((rd_T48 l0 t156).f2) = 2 then (if a2 = ((rd_T48 l0 t156).f1) then (if a3 = 3 then (if 0 ≤ t156 then (if t156 < (t153.length : Int) then (some ((t153.set (t156 : Int).toNat (⟨(rd_T48 t153 t156).f0, (rd_T48 t153 t156).f1, a3⟩ : S48)), true)) else (none)) else (none)) else (if a3 = 4 then (if 0 ≤ t156 then (if t156 < (t153.length : Int) then (some ((t153.set (t156 : Int).toNat (⟨(rd_T48 t153 t156).f0, (rd_T48 t153 t156).f1, a3⟩ : S48)), true)) else (none)) else (none)) else (some (t153, false)))) else (some (t153, false))) else (some (t153, false))) = some (r1, r2) := by rw [if_neg (show ¬ (false = true) by decide)] at H; exact H
                  clear H
                  have H := H1
                  clear H1
                  by_cases c33 : ((rd_T48 l0 t156).f2) = 2
                  · rw [if_pos c33] at H
                    have c33b0 : (((rd_T48 l0 t156).f2) == 2) = true := beq_iff_eq.mpr c33
                    have c33b1 : (((rd_T48 l0 t156).f2) != 2) = false := bne_eq_false_iff_eq.mpr c33
                    clear c33
                    by_cases c34 : a2 = ((rd_T48 l0 t156).f1)
                    · rw [if_pos c34] at H
                      have c34b0 : (a2 == ((rd_T48 l0 t156).f1)) = true := beq_iff_eq.mpr c34
                      have c34b1 : (a2 != ((rd_T48 l0 t156).f1)) = false := bne_eq_false_iff_eq.mpr c34
                      clear c34
                      by_cases c35 : a3 = 3
                      · rw [if_pos c35] at H
                        have c35b0 : (a3 == 3) = true := beq_iff_eq.mpr c35
                        have c35b1 : (a3 != 3) = false := bne_eq_false_iff_eq.mpr c35
                        clear c35
                        by_cases c36 : 0 ≤ t156
                        · rw [if_pos c36] at H
                          have c36b0 : decide (0 ≤ t156) = true := decide_eq_true c36
                          clear c36
                          by_cases c37 : t156 < (t153.length : Int)
                          · rw [if_pos c37] at H
                            have c37b0 : decide (t156 < (t153.length : Int)) = true := decide_eq_true c37
                            clear c37
                            obtain ⟨y161, hy161⟩ : ∃ y_ : List (S48), y_ = (t153.set (t156 : Int).toNat (⟨(rd_T48 t153 t156).f0, (rd_T48 t153 t156).f1, a3⟩ : S48)) := ⟨_, rfl⟩
                            replace H : (some (y161, true)) = some (r1, r2) := by first | (rw [hy161]; with_reducible exact H) | (have H2_ := (Option.bind_some _ _).symm.trans H; rw [hy161]; with_reducible exact H2_) | (have H2_ := (Option.bind_some _ _).symm.trans H; with_reducible exact H2_) | with_reducible exact H | (rw [hy161]; exact H) | exact H
                            have Ny161 := Aside0.mk hy161
                            clear hy161
                            simp only [Option.some.injEq, Prod.mk.injEq] at H
                            obtain ⟨rfl, rfl⟩ := H
                            have hcz39_0 : wc.cell? ⟨gb159, 0, none⟩ = some (.int .i64 ((rd_T48 l0 t156).f0)) := (blk_cell BK159.out 0).trans rfl
                            have hcz39_1 : wc.cell? ⟨gb159, 1, none⟩ = some (.int .i64 ((rd_T48 l0 t156).f1)) := (blk_cell BK159.out 1).trans rfl
                            have hcz39_2 : wc.cell? ⟨gb159, 2, none⟩ = some (.int .i64 ((rd_T48 l0 t156).f2)) := (blk_cell BK159.out 2).trans rfl
                            have hfz39_0 := blk_frozen BK159.out 0
                            have hfz39_1 := blk_frozen BK159.out 1
                            have hfz39_2 := blk_frozen BK159.out 2
                            have p38 : 0 ≤ (t156 : Int) := of_decide_eq_true (by first | (with_reducible assumption) | assumption)
                            have q38 : (t156 : Int) < ((t153.length : Int) : Int) := of_decide_eq_true (by first | (with_reducible assumption) | assumption)
                            obtain ⟨go38, co38, eo38, gb38, gl38, cl38, HG38⟩ := Kd.R_form HO_10.out (by omega)
                            (first | cases eo38 | (injection eo38 with ea_ en_ ec_; (first | subst ea_ | (injection ea_ with ea_; subst ea_)); subst ec_; clear en_))
                            have GB38 := Aside0.mk gb38
                            have GG38 := Aside0.mk HG38
                            clear gb38 gl38 HG38
                            obtain ⟨ce38, hcl38, hM38, hcc38, hfr38⟩ := Kd.R_elem HO_10.out z48 (t156 : Int) p38 q38
                            obtain rfl := k48_openM hM38
                            have hx38_0 : wc.cell? ⟨go38, (t156 : Int).toNat * 3, none⟩ = some (.int .i64 ((rd_T48 t153 t156).f0)) := hcc38 0 _ rfl
                            have hx38_1 : wc.cell? ⟨go38, (t156 : Int).toNat * 3 + 1, none⟩ = some (.int .i64 ((rd_T48 t153 t156).f1)) := hcc38 1 _ rfl
                            have hx38_2 : wc.cell? ⟨go38, (t156 : Int).toNat * 3 + 2, none⟩ = some (.int .i64 ((rd_T48 t153 t156).f2)) := hcc38 2 _ rfl
                            have hf38_0 : wc.frozen? ⟨go38, (t156 : Int).toNat * 3, none⟩ = false := hfr38 0
                            have hf38_1 : wc.frozen? ⟨go38, (t156 : Int).toNat * 3 + 1, none⟩ = false := hfr38 1
                            have hf38_2 : wc.frozen? ⟨go38, (t156 : Int).toNat * 3 + 2, none⟩ = false := hfr38 2
                            (try clear hM38); clear hcl38 hcc38 hfr38
                            replace p38 := eq_true p38
                            replace q38 := eq_true q38
                            have HX40 := Aside0.mk (show Kd.R k48 48 wc w.heap.size (fun k_ => k_ ≠ gb159) (.slice (some ⟨go38, 0, none⟩) t153.length co38) t153 from (by (with_reducible repeat (first | apply Kd.R_alloc | apply Kd.R_drewN | apply Kd.R_drew)); exact HO_10.out))
                            obtain ⟨ce40, hcl40, hM40, hcc40, hfr40⟩ := Kd.R_elem HX40.out z48 (t156 : Int) (of_decide_eq_true (by first | (with_reducible assumption) | assumption)) (by have h_ : (t156 : Int) < ((t153.length : Int) : Int) := of_decide_eq_true (by first | (with_reducible assumption) | assumption); first | exact h_ | (have e_ := (Kd.R_reads' HO_10.out).1; omega) | simpa using h_)
                            obtain rfl := k48_openM hM40
                            have HP40 := Kd.R_seg HX40.out (t156 : Int) (of_decide_eq_true (by first | (with_reducible assumption) | assumption)) (by have h_ : (t156 : Int) < ((t153.length : Int) : Int) := of_decide_eq_true (by first | (with_reducible assumption) | assumption); first | exact h_ | (have e_ := (Kd.R_reads' HO_10.out).1; omega) | simpa using h_) (seg := [.int .i64 a3]) (j := 2) hcl40 hcc40 (show 3 ≤ 3 from by decide) (x' := (⟨(rd_T48 t153 t156).f0, (rd_T48 t153 t156).f1, a3⟩ : S48)) (k48_mkM _ _ _ (⟨(rd_T48 t153 t156).f0, (rd_T48 t153 t156).f1, a3⟩ : S48) ) (fun _ hk => hk)
                            have hx40_2 := hcc40 2 _ rfl
                            (try simp only [show (k48).sz = 3 from rfl, Nat.mul_one, Nat.add_zero] at hx40_2)
                            have hf40_2 := hfr40 2
                            (try simp only [show (k48).sz = 3 from rfl, Nat.mul_one, Nat.add_zero] at hf40_2)
                            (try clear hM40); clear hcl40 hcc40 hfr40
                            go_wp2_with (first | ((with_reducible refine gate_store (t := 3) (p := 72) rfl ?_); refine store_event (t := 3) (p := 72) (v := ?vo_w41) (w1 := (wc.setCell ⟨go38, (t156 : Int).toNat * 3 + 2, none⟩ (.int .i64 a3))) ?hg ?ho ?hn ?hr ?_; (case ho => rfl); (case hg => rfl); (case hn => rfl); (case hr => first | (go_simp; done) | (go_simp; rfl)); intro w41 hw; have hg : wc.grownBy w41 (some go38) := (by rw [hw]; exact HP40.2); have hp_ : Kd.R k48 48 w41 w.heap.size (fun k_ => k_ ≠ gb159) (.slice (some ⟨go38, 0, none⟩) t153.length co38) y161 := (by rw [hw, Ny161.out]; exact HP40.1); clear HP40; have n0_ := Aside0.mk (hp_); have n1_ := Aside0.mk (blk_grown (g := gb159) (o := .cells #[.int .i64 ((rd_T48 l0 t156).f0), .int .i64 ((rd_T48 l0 t156).f1), .int .i64 ((rd_T48 l0 t156).f2)] 48 (0, 0)) (by (with_reducible repeat (first | refine blk_drewN ?_ _ | refine blk_drew ?_ | refine blk_alloc ?_ _)); exact BK159.out) hg (Kd.R_away HO_10.out (fun _ hk => hk))); have n2_ := Aside0.mk ((by rw [hw]; exact below_set (HB.out) GB38.out : Below w.heap.size w w41)); clear HO_10; clear BK159; clear HB; have HO_10 := n0_; have BK159 := n1_; have HB := n2_; clear n0_ n1_ n2_; clear hg hw hp_))
                            go_ret2
                            exact ⟨_, by first | rfl | (simp [errW_none, errW_some] <;> rfl) | (simp [*, errW_none, errW_some] <;> rfl), by (with_reducible repeat (first | apply Kd.R_alloc | apply Kd.R_drewN | apply Kd.R_drew)); exact Kd.R_mono HO_10.out (fun _ hk => trivial), by repeat (first | (with_reducible first | exact HB.out | apply below_alloc | apply pw_below_drewN | apply below_drew1 | refine below_set ?_ GE159.out) | exact HB.out)⟩
                          · rw [if_neg c37] at H
                            exact absurd H (by simp)
                        · rw [if_neg c36] at H
                          exact absurd H (by simp)
                      · rw [if_neg c35] at H
                        have c35b0 : (a3 == 3) = false := beq_eq_false_iff_ne.mpr c35
                        have c35b1 : (a3 != 3) = true := bne_iff_ne.mpr c35
                        by_cases c42 : a3 = 4
                        · rw [if_pos c42] at H
                          have c42b0 : (a3 == 4) = true := beq_iff_eq.mpr c42
                          have c42b1 : (a3 != 4) = false := bne_eq_false_iff_eq.mpr c42
                          clear c42
                          by_cases c43 : 0 ≤ t156
                          · rw [if_pos c43] at H
                            have c43b0 : decide (0 ≤ t156) = true := decide_eq_true c43
                            clear c43
                            by_cases c44 : t156 < (t153.length : Int)
                            · rw [if_pos c44] at H
                              have c44b0 : decide (t156 < (t153.length : Int)) = true := decide_eq_true c44
                              clear c44
                              obtain ⟨y162, hy162⟩ : ∃ y_ : List (S48), y_ = (t153.set (t156 : Int).toNat (⟨(rd_T48 t153 t156).f0, (rd_T48 t153 t156).f1, a3⟩ : S48)) := ⟨_, rfl⟩
                              replace H : (some (y162, true)) = some (r1, r2) := by first | (rw [hy162]; with_reducible exact H) | (have H2_ := (Option.bind_some _ _).symm.trans H; rw [hy162]; with_reducible exact H2_) | (have H2_ := (Option.bind_some _ _).symm.trans H; with_reducible exact H2_) | with_reducible exact H | (rw [hy162]; exact H) | exact H
                              have Ny162 := Aside0.mk hy162
                              clear hy162
                              simp only [Option.some.injEq, Prod.mk.injEq] at H
                              obtain ⟨rfl, rfl⟩ := H
                              have hcz46_0 : wc.cell? ⟨gb159, 0, none⟩ = some (.int .i64 ((rd_T48 l0 t156).f0)) := (blk_cell BK159.out 0).trans rfl
                              have hcz46_1 : wc.cell? ⟨gb159, 1, none⟩ = some (.int .i64 ((rd_T48 l0 t156).f1)) := (blk_cell BK159.out 1).trans rfl
                              have hcz46_2 : wc.cell? ⟨gb159, 2, none⟩ = some (.int .i64 ((rd_T48 l0 t156).f2)) := (blk_cell BK159.out 2).trans rfl
                              have hfz46_0 := blk_frozen BK159.out 0
                              have hfz46_1 := blk_frozen BK159.out 1
                              have hfz46_2 := blk_frozen BK159.out 2
                              have p45 : 0 ≤ (t156 : Int) := of_decide_eq_true (by first | (with_reducible assumption) | assumption)
                              have q45 : (t156 : Int) < ((t153.length : Int) : Int) := of_decide_eq_true (by first | (with_reducible assumption) | assumption)
                              obtain ⟨go45, co45, eo45, gb45, gl45, cl45, HG45⟩ := Kd.R_form HO_10.out (by omega)
                              (first | cases eo45 | (injection eo45 with ea_ en_ ec_; (first | subst ea_ | (injection ea_ with ea_; subst ea_)); subst ec_; clear en_))
                              have GB45 := Aside0.mk gb45
                              have GG45 := Aside0.mk HG45
                              clear gb45 gl45 HG45
                              obtain ⟨ce45, hcl45, hM45, hcc45, hfr45⟩ := Kd.R_elem HO_10.out z48 (t156 : Int) p45 q45
                              obtain rfl := k48_openM hM45
                              have hx45_0 : wc.cell? ⟨go45, (t156 : Int).toNat * 3, none⟩ = some (.int .i64 ((rd_T48 t153 t156).f0)) := hcc45 0 _ rfl
                              have hx45_1 : wc.cell? ⟨go45, (t156 : Int).toNat * 3 + 1, none⟩ = some (.int .i64 ((rd_T48 t153 t156).f1)) := hcc45 1 _ rfl
                              have hx45_2 : wc.cell? ⟨go45, (t156 : Int).toNat * 3 + 2, none⟩ = some (.int .i64 ((rd_T48 t153 t156).f2)) := hcc45 2 _ rfl
                              have hf45_0 : wc.frozen? ⟨go45, (t156 : Int).toNat * 3, none⟩ = false := hfr45 0
                              have hf45_1 : wc.frozen? ⟨go45, (t156 : Int).toNat * 3 + 1, none⟩ = false := hfr45 1
                              have hf45_2 : wc.frozen? ⟨go45, (t156 : Int).toNat * 3 + 2, none⟩ = false := hfr45 2
                              (try clear hM45); clear hcl45 hcc45 hfr45
                              replace p45 := eq_true p45
                              replace q45 := eq_true q45
                              have HX47 := Aside0.mk (show Kd.R k48 48 wc w.heap.size (fun k_ => k_ ≠ gb159) (.slice (some ⟨go45, 0, none⟩) t153.length co45) t153 from (by (with_reducible repeat (first | apply Kd.R_alloc | apply Kd.R_drewN | apply Kd.R_drew)); exact HO_10.out))
                              obtain ⟨ce47, hcl47, hM47, hcc47, hfr47⟩ := Kd.R_elem HX47.out z48 (t156 : Int) (of_decide_eq_true (by first | (with_reducible assumption) | assumption)) (by have h_ : (t156 : Int) < ((t153.length : Int) : Int) := of_decide_eq_true (by first | (with_reducible assumption) | assumption); first | exact h_ | (have e_ := (Kd.R_reads' HO_10.out).1; omega) | simpa using h_)
                              obtain rfl := k48_openM hM47
                              have HP47 := Kd.R_seg HX47.out (t156 : Int) (of_decide_eq_true (by first | (with_reducible assumption) | assumption)) (by have h_ : (t156 : Int) < ((t153.length : Int) : Int) := of_decide_eq_true (by first | (with_reducible assumption) | assumption); first | exact h_ | (have e_ := (Kd.R_reads' HO_10.out).1; omega) | simpa using h_) (seg := [.int .i64 a3]) (j := 2) hcl47 hcc47 (show 3 ≤ 3 from by decide) (x' := (⟨(rd_T48 t153 t156).f0, (rd_T48 t153 t156).f1, a3⟩ : S48)) (k48_mkM _ _ _ (⟨(rd_T48 t153 t156).f0, (rd_T48 t153 t156).f1, a3⟩ : S48) ) (fun _ hk => hk)
                              have hx47_2 := hcc47 2 _ rfl
                              (try simp only [show (k48).sz = 3 from rfl, Nat.mul_one, Nat.add_zero] at hx47_2)
                              have hf47_2 := hfr47 2
                              (try simp only [show (k48).sz = 3 from rfl, Nat.mul_one, Nat.add_zero] at hf47_2)
                              (try clear hM47); clear hcl47 hcc47 hfr47
                              go_wp2_with (first | ((with_reducible refine gate_store (t := 3) (p := 72) rfl ?_); refine store_event (t := 3) (p := 72) (v := ?vo_w48) (w1 := (wc.setCell ⟨go45, (t156 : Int).toNat * 3 + 2, none⟩ (.int .i64 a3))) ?hg ?ho ?hn ?hr ?_; (case ho => rfl); (case hg => rfl); (case hn => rfl); (case hr => first | (go_simp; done) | (go_simp; rfl)); intro w48 hw; have hg : wc.grownBy w48 (some go45) := (by rw [hw]; exact HP47.2); have hp_ : Kd.R k48 48 w48 w.heap.size (fun k_ => k_ ≠ gb159) (.slice (some ⟨go45, 0, none⟩) t153.length co45) y162 := (by rw [hw, Ny162.out]; exact HP47.1); clear HP47; have n0_ := Aside0.mk (hp_); have n1_ := Aside0.mk (blk_grown (g := gb159) (o := .cells #[.int .i64 ((rd_T48 l0 t156).f0), .int .i64 ((rd_T48 l0 t156).f1), .int .i64 ((rd_T48 l0 t156).f2)] 48 (0, 0)) (by (with_reducible repeat (first | refine blk_drewN ?_ _ | refine blk_drew ?_ | refine blk_alloc ?_ _)); exact BK159.out) hg (Kd.R_away HO_10.out (fun _ hk => hk))); have n2_ := Aside0.mk ((by rw [hw]; exact below_set (HB.out) GB45.out : Below w.heap.size w w48)); clear HO_10; clear BK159; clear HB; have HO_10 := n0_; have BK159 := n1_; have HB := n2_; clear n0_ n1_ n2_; clear hg hw hp_))
                              go_ret2
                              exact ⟨_, by first | rfl | (simp [errW_none, errW_some] <;> rfl) | (simp [*, errW_none, errW_some] <;> rfl), by (with_reducible repeat (first | apply Kd.R_alloc | apply Kd.R_drewN | apply Kd.R_drew)); exact Kd.R_mono HO_10.out (fun _ hk => trivial), by repeat (first | (with_reducible first | exact HB.out | apply below_alloc | apply pw_below_drewN | apply below_drew1 | refine below_set ?_ GE159.out) | exact HB.out)⟩
                            · rw [if_neg c44] at H
                              exact absurd H (by simp)
                          · rw [if_neg c43] at H
                            exact absurd H (by simp)
                        · rw [if_neg c42] at H
                          have c42b0 : (a3 == 4) = false := beq_eq_false_iff_ne.mpr c42
                          have c42b1 : (a3 != 4) = true := bne_iff_ne.mpr c42
                          simp only [Option.some.injEq, Prod.mk.injEq] at H
                          obtain ⟨rfl, rfl⟩ := H
                          have hcz49_0 : wc.cell? ⟨gb159, 0, none⟩ = some (.int .i64 ((rd_T48 l0 t156).f0)) := (blk_cell BK159.out 0).trans rfl
                          have hcz49_1 : wc.cell? ⟨gb159, 1, none⟩ = some (.int .i64 ((rd_T48 l0 t156).f1)) := (blk_cell BK159.out 1).trans rfl
                          have hcz49_2 : wc.cell? ⟨gb159, 2, none⟩ = some (.int .i64 ((rd_T48 l0 t156).f2)) := (blk_cell BK159.out 2).trans rfl
                          have hfz49_0 := blk_frozen BK159.out 0
                          have hfz49_1 := blk_frozen BK159.out 1
                          have hfz49_2 := blk_frozen BK159.out 2
                          go_wp2
                          go_ret2
                          exact ⟨_, by first | rfl | (simp [errW_none, errW_some] <;> rfl) | (simp [*, errW_none, errW_some] <;> rfl), by (with_reducible repeat (first | apply Kd.R_alloc | apply Kd.R_drewN | apply Kd.R_drew)); exact Kd.R_mono HO_10.out (fun _ hk => trivial), by repeat (first | (with_reducible first | exact HB.out | apply below_alloc | apply pw_below_drewN | apply below_drew1 | refine below_set ?_ GE159.out) | exact HB.out)⟩
                    · rw [if_neg c34] at H
                      have c34b0 : (a2 == ((rd_T48 l0 t156).f1)) = false := beq_eq_false_iff_ne.mpr c34
                      have c34b1 : (a2 != ((rd_T48 l0 t156).f1)) = true := bne_iff_ne.mpr c34
                      simp only [Option.some.injEq, Prod.mk.injEq] at H
                      obtain ⟨rfl, rfl⟩ := H
                      have hcz50_0 : wc.cell? ⟨gb159, 0, none⟩ = some (.int .i64 ((rd_T48 l0 t156).f0)) := (blk_cell BK159.out 0).trans rfl
                      have hcz50_1 : wc.cell? ⟨gb159, 1, none⟩ = some (.int .i64 ((rd_T48 l0 t156).f1)) := (blk_cell BK159.out 1).trans rfl
                      have hcz50_2 : wc.cell? ⟨gb159, 2, none⟩ = some (.int .i64 ((rd_T48 l0 t156).f2)) := (blk_cell BK159.out 2).trans rfl
                      have hfz50_0 := blk_frozen BK159.out 0
                      have hfz50_1 := blk_frozen BK159.out 1
                      have hfz50_2 := blk_frozen BK159.out 2
                      go_wp2
                      go_ret2
                      exact ⟨_, by first | rfl | (simp [errW_none, errW_some] <;> rfl) | (simp [*, errW_none, errW_some] <;> rfl), by (with_reducible repeat (first | apply Kd.R_alloc | apply Kd.R_drewN | apply Kd.R_drew)); exact Kd.R_mono HO_10.out (fun _ hk => trivial), by repeat (first | (with_reducible first | exact HB.out | apply below_alloc | apply pw_below_drewN | apply below_drew1 | refine below_set ?_ GE159.out) | exact HB.out)⟩
                  · rw [if_neg c33] at H
                    have c33b0 : (((rd_T48 l0 t156).f2) == 2) = false := beq_eq_false_iff_ne.mpr c33
                    have c33b1 : (((rd_T48 l0 t156).f2) != 2) = true := bne_iff_ne.mpr c33
                    simp only [Option.some.injEq, Prod.mk.injEq] at H
                    obtain ⟨rfl, rfl⟩ := H
                    have hcz51_0 : wc.cell? ⟨gb159, 0, none⟩ = some (.int .i64 ((rd_T48 l0 t156).f0)) := (blk_cell BK159.out 0).trans rfl
                    have hcz51_1 : wc.cell? ⟨gb159, 1, none⟩ = some (.int .i64 ((rd_T48 l0 t156).f1)) := (blk_cell BK159.out 1).trans rfl
                    have hcz51_2 : wc.cell? ⟨gb159, 2, none⟩ = some (.int .i64 ((rd_T48 l0 t156).f2)) := (blk_cell BK159.out 2).trans rfl
                    have hfz51_0 := blk_frozen BK159.out 0
                    have hfz51_1 := blk_frozen BK159.out 1
                    have hfz51_2 := blk_frozen BK159.out 2
                    go_wp2
                    go_ret2
                    exact ⟨_, by first | rfl | (simp [errW_none, errW_some] <;> rfl) | (simp [*, errW_none, errW_some] <;> rfl), by (with_reducible repeat (first | apply Kd.R_alloc | apply Kd.R_drewN | apply Kd.R_drew)); exact Kd.R_mono HO_10.out (fun _ hk => trivial), by repeat (first | (with_reducible first | exact HB.out | apply below_alloc | apply pw_below_drewN | apply below_drew1 | refine below_set ?_ GE159.out) | exact HB.out)⟩
          · rw [if_neg c16] at H
            exact absurd H (by simp)
        · rw [if_neg c15] at H
          exact absurd H (by simp)

end Go.Proofs.Ytjidlgimnigllaa.PFnExactReply
