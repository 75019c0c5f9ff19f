-- Written by a program of this session (hooks of mine on the print): Lean checks it.
import Derived.Test.YtdlobolnajcfnaaPFnPositionsx0
import Derived.Test.YtdlobolnajcfnaaPFnPositionsx8
import Derived.Test.YtdlobolnajcfnaaPFnPositionsx15
namespace Go.Proofs.Ytdlobolnajcfnaa.PFnPositions
open Go.RowKit Go.Proofs.YtdlobolnajcfnaaW.PrintWords Go.Proofs.YtdlobolnajcfnaaW.PrintLast Go.Proofs.YtdlobolnajcfnaaW.PrintMore
attribute [local go_sem] max2_int min2_int max_two min_two max_three min_three max_four min_four   -- for this text's walks alone
set_option linter.unusedVariables false
set_option linter.unusedSimpArgs false
set_option maxHeartbeats 8000000
set_option maxRecDepth 100000

/-! ### impl_InAll: function 29 -/
/-- The first row that does not hold a number. -/
def inAny.l0 : Nat → List (List Int) → Int → Int → Option Int
  | 0, _, _, _ => none
  | k + 1, x0, x1, x8 => if x8 < (x0.length : Int) then (if 0 ≤ x8 then ((slices_Contains_int_int.f k (rd_L2 x0 x8) x1).bind fun t => (if t = true then (inAny.l0 k x0 x1 (wrap64 (x8 + 1))) else (some x8))) else (none)) else (some (-1))
theorem inAny.mono_l : ∀ k, (∀ y0 y1 y2, LeO (inAny.l0 k y0 y1 y2) (inAny.l0 (k + 1) y0 y1 y2))
  | 0 => fun _ _ _ => by (unfold inAny.l0; exact Zg _)
  | k + 1 => by
    have ih0 := inAny.mono_l k
    · intro y0 y1 y2
      unfold inAny.l0
      repeat' with_reducible first | apply ih0 | apply slices_Contains_int_int.mono | apply Zy | apply Zg | refine Zl ?_ ?_ | refine Zh ?_ (fun _ => ?_)
def impl_InAll.l0 : Nat → List (List Int) → List Int → List Int → Int → Option (List Int)
  | 0, _, _, _, _ => none
  | k + 1, x0, x1, x3, x15 => if x15 < (x1.length : Int) then (if 0 ≤ x15 then ((inAny.l0 k x0 (rd x1 x15) 0).bind fun t => (if 0 ≤ t then (impl_InAll.l0 k x0 x1 x3 (wrap64 (x15 + 1))) else (if x3.length < 17592186044416 then (impl_InAll.l0 k x0 x1 (x3 ++ [rd x1 x15]) (wrap64 (x15 + 1))) else (none)))) else (none)) else (some x3)
def impl_InAll.f (k : Nat) (l0 : List (List Int)) : Option (List Int) := if (l0.length : Int) = 0 then (some []) else (impl_InAll.l0 k l0 (rd_L2 l0 0) [] 0)
theorem impl_InAll.mono_l : ∀ k, (∀ y0 y1 y2 y3, LeO (impl_InAll.l0 k y0 y1 y2 y3) (impl_InAll.l0 (k + 1) y0 y1 y2 y3))
  | 0 => fun _ _ _ _ => by (unfold impl_InAll.l0; exact Zg _)
  | k + 1 => by
    have ih0 := impl_InAll.mono_l k
    · intro y0 y1 y2 y3
      unfold impl_InAll.l0
      repeat' with_reducible first | apply ih0 | apply inAny.mono_l | apply Zy | apply Zg | refine Zl ?_ ?_ | refine Zh ?_ (fun _ => ?_)
theorem impl_InAll.mono : ∀ a0 k, LeO (impl_InAll.f k a0) (impl_InAll.f (k + 1) a0) := by
  intro a0 k
  unfold impl_InAll.f
  exact Zl (Zy _) (impl_InAll.mono_l _ _ _ _ _)
/-- The function value at a row, with the number in its box. -/
theorem inAny.fn (k : Nat) (A0 : Option Addr) (c0 : Nat) (l0 : List Int) (x : Int) (B : Nat) (r : Bool) (w : World) (hr0 : Kd.C (Kd.int .i64) w A0 l0.length l0) (hc0 : l0.length ≤ c0) (hcell : w.cell? ⟨B, 0, none⟩ = some (.int .i64 x)) (h : slices_Contains_int_int.f k l0 x = some r) :
    Calls Try.prog 79 #[.slice A0 l0.length c0, .pointer (some ⟨B, 0, none⟩)] w fun e w' => e = .returned (.bool (!r)) ∧ Drawn0 w w' := by
  have hcon := fun W (h0 : Kd.C (Kd.int .i64) W A0 l0.length l0) => slices_Contains_int_int.calls k A0 c0 l0 x r W h0 hc0 h
  go_enter Try.func79, Try.ntmps79
  go_wp2_with (go_at_call 80; refine (hcon _ (by first | exact hr0 | exact Zu hr0 | exact Zp hr0 _)).mono ?_; rintro e w' ⟨rfl, ⟨nd, rfl⟩⟩)
  go_ret
  exact ⟨by first | rfl | (cases r <;> rfl) | (cases r <;> simp), dr_⟩
theorem inAny.finds (k : Nat) (A0 : Option Addr) (c0 : Nat) (l0 : List (List Int)) (x : Int) (B : Nat) (r : Int) (w : World) (hr0 : Kd.C (Kd.slice 3 (Kd.int .i64)) w A0 l0.length l0) (hc0 : l0.length ≤ c0) (hB : B < w.heap.size) (hcell : w.cell? ⟨B, 0, none⟩ = some (.int .i64 x)) (h : inAny.l0 k l0 x 0 = some r) :
    Calls Try.prog 98 #[.slice A0 l0.length c0, .func (.func 79) #[] #[.pointer (some ⟨B, 0, none⟩)]] w fun e w' => e = .returned (.int .i64 r) ∧ Drawn0 w w' := by
  have eg : ∀ args w, (callFunc 79 args).run Try.prog w = .ok (.enter 79 args) w := enters_of Try.func79 (by kernel_rfl) rfl
  have H' := Aside0.mk h
  have HR0 := Aside0.mk hr0
  have HCELL := Aside0.mk hcell
  have HBB := Aside0.mk hB
  clear h hr0 hcell hB
  go_enter Try.func98, Try.ntmps98
  go_wp2
  go_loopg [5, 8] k (fun kq _ v8 w' => ∃ (x8_1 : Int), v8 = .int .i64 x8_1 ∧ Aside0 (inAny.l0 kq l0 x x8_1 = some r) ∧ Aside0 (kq ≤ k) ∧ Drawn0 w w')
  case atStart => exact ⟨0, rfl, H', ⟨Nat.le_refl _⟩, dr_⟩
  case round =>
    clear H'
    obtain ⟨x8_1, rfl, HA, HK1, ⟨m1, rfl⟩⟩ := hrel
    cases gk with
    | zero => exact absurd HA.out (by simp [inAny.l0])
    | succ k1 =>
      have H := HA.out
      clear HA
      simp only [inAny.l0] at H
      by_cases c3 : x8_1 < (l0.length : Int)
      rotate_left
      ·rw [if_neg c3] at H
       have c3b0 : decide (x8_1 < (l0.length : Int)) = false := decide_eq_false c3
       clear c3
       obtain rfl := Option.some.inj H
       go_wp2
       go_ret
       exact ⟨rfl, dr_⟩
      rw [if_pos c3] at H
      have c3b0 : decide (x8_1 < (l0.length : Int)) = true := decide_eq_true c3
      by_cases c4 : 0 ≤ x8_1
      rotate_left
      ·rw [if_neg c4] at H
       exact absurd H (by simp)
      rw [if_pos c4] at H
      have c4b0 : decide (0 ≤ x8_1) = true := decide_eq_true c4
      have p101 : 0 ≤ (x8_1 : Int) := c4
      have q101 : x8_1 < (l0.length : Int) := c3
      clear c3 c4
      obtain ⟨ad101, A101_0, c101_0, e101, hx101_0, hl101_0, hi101_0⟩ := at_L2 HR0.out x8_1 p101 q101
      cases e101
      obtain ⟨t102, hcall, H⟩ : ∃ t102 : Bool, (Calls Try.prog 79 (#[.slice A101_0 (rd_L2 l0 x8_1).length c101_0] ++ #[.pointer (some ⟨B, 0, none⟩)]) (w.drewN m1) fun e w' => e = .returned (.bool t102) ∧ Drawn0 (w.drewN m1) w') ∧ (if t102 = true then (some x8_1) else (inAny.l0 k1 l0 x (wrap64 (x8_1 + 1)))) = some r := by
        have hce := (((Zm (Below.refl w.heap.size w) m1).cell (p := ⟨B, 0, none⟩) HBB.out).trans HCELL.out)
        obtain ⟨t, hw, H⟩ := Option.bind_eq_some_iff.mp H
        refine ⟨!t, inAny.fn k1 A101_0 c101_0 (rd_L2 l0 x8_1) x B t (w.drewN m1) (Zp hi101_0 _) hl101_0 hce hw, ?_⟩
        cases t with
        | true => rw [if_pos rfl] at H; rw [if_neg (by decide)]; exact H
        | false => rw [if_neg (by decide)] at H; rw [if_pos (by decide)]; exact H
      clear hi101_0 hl101_0
      replace p101 := eq_true p101
      replace q101 := eq_true q101
      cases t102 with
      | true =>
        rw [if_pos rfl] at H
        obtain rfl := Option.some.inj H
        go_wp2_with (go_at_call 79; refine hcall.mono ?_; rintro e w' ⟨rfl, ⟨nd, rfl⟩⟩)
        go_ret
        exact ⟨rfl, dr_⟩
      | false =>
        rw [if_neg (by decide)] at H
        have H' := Aside0.mk H
        clear H
        go_wp2_with (go_at_call 79; refine hcall.mono ?_; rintro e w' ⟨rfl, ⟨nd, rfl⟩⟩)
        go_roundg k1
        case measure => have := HK1.out; omega
        case rel => exact ⟨(wrap64 (x8_1 + 1)), sm_, H', ⟨by have := HK1.out; omega⟩, dr_⟩
theorem inAny.calls (k : Nat) (A0 : Option Addr) (c0 : Nat) (l0 : List (List Int)) (x : Int) (B : Nat) (r : Int) (w : World) (hr0 : Kd.C (Kd.slice 3 (Kd.int .i64)) w A0 l0.length l0) (hc0 : l0.length ≤ c0) (hB : B < w.heap.size) (hcell : w.cell? ⟨B, 0, none⟩ = some (.int .i64 x)) (h : inAny.l0 k l0 x 0 = some r) :
    Calls Try.prog 70 #[.slice A0 l0.length c0, .func (.func 79) #[] #[.pointer (some ⟨B, 0, none⟩)]] w fun e w' => e = .returned (.bool (decide (0 ≤ r))) ∧ Drawn0 w w' := by
  have hcon := fun m => inAny.finds k A0 c0 l0 x B r (w.drewN m) (Zp hr0 _) hc0 (by simpa [World.drewN] using hB) (((Zm (Below.refl w.heap.size w) m).cell (p := ⟨B, 0, none⟩) hB).trans hcell) h
  have hcon0 := inAny.finds k A0 c0 l0 x B r w hr0 hc0 hB hcell h
  clear hr0 h hcell
  have hge : decide (r ≥ 0) = decide (0 ≤ r) := rfl
  go_enter Try.func70, Try.ntmps70
  go_wp2_with (go_at_call 98; first | (refine hcon0.mono ?_; rintro e w' ⟨rfl, ⟨nd, rfl⟩⟩) | (refine (hcon _).mono ?_; rintro e w' ⟨rfl, ⟨nd, rfl⟩⟩))
  go_ret
  exact ⟨by first | rfl | (simp; done), dr_⟩
theorem impl_InAll.calls (k : Nat) (A0 : Option Addr) (c0 : Nat) (l0 : List (List Int)) (r : List Int) (w : World) (hr0 : Kd.C (Kd.slice 3 (Kd.int .i64)) w A0 l0.length l0) (hc0 : l0.length ≤ c0) (h : impl_InAll.f k l0 = some r) :
    Calls Try.prog 29 #[.slice A0 l0.length c0] w fun e w' => ∃ v0_ : Value, e = .returned (v0_) ∧ Kd.R (Kd.int .i64) 3 w' w.heap.size (fun _ => True) v0_ r ∧ Below w.heap.size w w' := by
  have HR0 := Aside0.mk hr0
  have HC0 := Aside0.mk hc0
  clear hr0 hc0
  have HB := Aside0.mk (Below.refl w.heap.size w)
  have H := h
  unfold impl_InAll.f at H
  clear h
  by_cases c1 : (l0.length : Int) = 0
  ·rw [if_pos c1] at H
   obtain rfl := Option.some.inj H
   have c1b0 : ((l0.length : Int) == 0) = true := beq_iff_eq.mpr c1
   have c1b1 : l0.length = 0 := by omega
   go_enter Try.func29, Try.ntmps29
   go_wp2_with (first
     | ((with_reducible refine Zz (N := 6) rfl ?_); refine Kd.R_lit (Kd.int .i64) _ 3 ?hg (N := 6) ?hd (xs := ([] : List Int)) (inner := []) (ok := fun _ => True) (okp := fun _ => True) ?hr ?hp (fun _ hk => hk) trivial (Below.refl _ _) (Nat.le_refl _) (by simp) ?_; (case hd => rfl); (case hg => rfl); (case hr => first | (go_simp; done) | (go_simp; rfl)); (case hp => exact (Reps.none _ _)); intro v4 w6 ho7 hb hg_ hnew_; clear hg_ hnew_; have HO := Aside0.mk ho7; have HB6 := Aside0.mk hb; clear ho7 hb))
   go_ret
   exact ⟨_, by first | rfl | (simp; done), Kd.R_lower (by first | exact HO.out | exact Kd.R_drewN HO.out _ | exact Kd.R_drew HO.out) (Nat.le_refl _), by first | exact HB6.out | exact Zm HB6.out _ | exact Zq HB6.out⟩
  rw [if_neg c1] at H
  have c1b0 : ((l0.length : Int) == 0) = false := beq_eq_false_iff_ne.mpr c1
  have c1b1 : ¬ l0.length = 0 := by omega
  have H' := Aside0.mk H
  clear H
  have q3 : (0 : Int) < (l0.length : Int) := by omega
  obtain ⟨ad3, As, cs, e3, hx3, hls, his⟩ := at_L2 HR0.out 0 (Int.le_refl 0) q3
  cases e3
  rw [show ((0 : Int)).toNat = 0 from rfl, Addr.add_zero'] at hx3
  obtain ⟨s, hs⟩ : ∃ s : List Int, s = rd_L2 l0 0 := ⟨_, rfl⟩
  rw [← hs] at H' hx3 hls his
  have HS := Aside0.mk his
  have HLS := Aside0.mk hls
  clear his hls hs c1
  replace q3 := eq_true q3
  have qn3 : (0 < l0.length) = True := eq_true (by omega)
  go_enter Try.func29, Try.ntmps29
  go_wp2_with (first
    | ((with_reducible refine Zz (N := 6) rfl ?_); refine Kd.R_lit (Kd.int .i64) _ 3 ?hg (N := 6) ?hd (xs := ([] : List Int)) (inner := []) (ok := fun _ => True) (okp := fun _ => True) ?hr ?hp (fun _ hk => hk) trivial (Below.refl _ _) (Nat.le_refl _) (by simp) ?_; (case hd => rfl); (case hg => rfl); (case hr => first | (go_simp; done) | (go_simp; rfl)); (case hp => exact (Reps.none _ _)); intro v4 w6 ho7 hb hg_ hnew_; clear hg_ hnew_; have HO := Aside0.mk ho7; replace hx3 := (hb.cell (World.block_lt_of_cell? w _ hx3)).trans hx3; clear HB; have HB := Aside0.mk hb; clear ho7 hb))
  go_loopg [3, 15] k (fun kq v3 v15 w' => ∃ (y3 : List Int) (x15 : Int), v15 = .int .i64 x15 ∧ Aside0 (impl_InAll.l0 kq l0 s y3 x15 = some r) ∧ Aside0 (kq ≤ k) ∧ Aside0 (Kd.R (Kd.int .i64) 3 w' w.heap.size (fun _ => True) v3 y3) ∧ Aside0 (Below w.heap.size w w'))
  case atStart => exact ⟨[], 0, rfl, H', ⟨Nat.le_refl _⟩, HO, HB⟩
  case round =>
    clear H' HO HB
    obtain ⟨y3, x15, rfl, HA, HK1, HO, HB⟩ := hrel
    cases gk with
    | zero => exact absurd HA.out (by simp [impl_InAll.l0])
    | succ k1 =>
      have H := HA.out
      clear HA
      simp only [impl_InAll.l0] at H
      by_cases c3 : x15 < (s.length : Int)
      rotate_left
      ·rw [if_neg c3] at H
       have c3b0 : decide (x15 < (s.length : Int)) = false := decide_eq_false c3
       clear c3
       obtain rfl := Option.some.inj H
       go_wp2
       go_ret
       exact ⟨_, by first | rfl | (simp; done), by first | exact HO.out | exact Kd.R_drewN HO.out _ | exact Kd.R_drew HO.out, by first | exact HB.out | exact Zm HB.out _ | exact Zq HB.out⟩
      rw [if_pos c3] at H
      have c3b0 : decide (x15 < (s.length : Int)) = true := decide_eq_true c3
      by_cases c4 : 0 ≤ x15
      rotate_left
      ·rw [if_neg c4] at H
       exact absurd H (by simp)
      rw [if_pos c4] at H
      have c4b0 : decide (0 ≤ x15) = true := decide_eq_true c4
      obtain ⟨tq, A60, H⟩ := Option.bind_eq_some_iff.mp H
      have A6 := Aside0.mk A60
      clear A60
      have p9 : 0 ≤ (x15 : Int) := c4
      have q9 : x15 < (s.length : Int) := c3
      clear c3 c4
      obtain ⟨ad9, e9, hx9⟩ := Zo (Kd.C_below HS.out HB.out) x15 p9 q9
      cases e9
      replace p9 := eq_true p9
      replace q9 := eq_true q9
      obtain ⟨n9, hn9⟩ : ∃ n : Int, n = rd s x15 := ⟨_, rfl⟩
      have HN9 := Aside0.mk hn9
      rw [← hn9] at H A6 hx9
      clear hn9
      have HCALL : ∀ (w5 : World) (gA m : Nat), w5.heap[gA]? = some (.cells #[.int .i64 0] 3 (0, 0)) → wr.heap.size ≤ gA → Below wr.heap.size wr w5 → Calls Try.prog 70 #[.slice (some ad3) l0.length c0, .func (.func 79) #[] #[.pointer (some ⟨gA, 0, none⟩)]] ((w5.setCell ⟨gA, 0, none⟩ (.int .i64 n9)).drewN m) fun e w' => e = .returned (.bool (decide (0 ≤ tq))) ∧ Below wr.heap.size wr w' ∧ w'.cell? ⟨gA, 0, none⟩ = some (.int .i64 n9) := by
        intro w5 gA m hbox hgA hb5
        have hput := blk_put hbox 0 (.int .i64 n9) rfl
        have hbs := Zr (j := 0) (v := .int .i64 n9) hb5 hgA
        have hbm := Zm hbs m
        refine (inAny.calls k1 (some ad3) c0 l0 n9 gA tq _ (Kd.C_below HR0.out (Zc HB.out hbm)) HC0.out (blk_lt hput) ((Za hput 0).trans rfl) A6.out).mono ?_
        rintro e w' ⟨rfl, nd, rfl⟩
        exact ⟨rfl, Zm hbm nd, (Za hput 0).trans rfl⟩
      by_cases c6 : 0 ≤ tq
      ·rw [if_pos c6] at H
       have c6b : decide (0 ≤ tq) = true := decide_eq_true c6
       clear c6
       have H' := Aside0.mk H
       clear H
       go_wp2_with (first
         | ((with_reducible refine Zz (N := 5) rfl ?_); refine ZI ?hg (N := 5) ?hd (cs := #[.int .i64 0]) (t := 3) ?hr ?_; (case hd => rfl); (case hg => rfl); (case hr => first | (go_simp; done) | (go_simp; rfl)); intro gA hgA w5 hbox hb5; have HC5 := HCALL w5 gA 0 hbox (Nat.le_of_eq hgA.symm) hb5; have hcz5 : w5.cell? ⟨gA, 0, none⟩ = some (.int .i64 0) := (Za hbox 0).trans rfl; have hfz5 := Zb hbox 0; clear hbox hb5 hgA HCALL)
         | (go_at_call 70; refine HC5.mono ?_; rintro e w8 ⟨rfl, hb8, hcz8⟩; have HB8 := Aside0.mk hb8; clear hb8))
       go_roundg k1
       case measure => have := HK1.out; omega
       case rel => exact ⟨y3, (wrap64 (x15 + 1)), sm_, H', ⟨by have := HK1.out; omega⟩, ⟨Kd.R_below HO.out HB8.out⟩, ⟨Zc HB.out HB8.out⟩⟩
      rw [if_neg c6] at H
      have c6b : decide (0 ≤ tq) = false := decide_eq_false c6
      clear c6
      by_cases c7 : y3.length < 17592186044416
      rotate_left
      ·rw [if_neg c7] at H
       exact absurd H (by simp)
      rw [if_pos c7] at H
      have LMc7 := Aside0.mk c7
      clear c7
      have H' := Aside0.mk H
      clear H
      go_wp2_with (first
        | ((with_reducible refine Zz (N := 5) rfl ?_); refine ZI ?hg (N := 5) ?hd (cs := #[.int .i64 0]) (t := 3) ?hr ?_; (case hd => rfl); (case hg => rfl); (case hr => first | (go_simp; done) | (go_simp; rfl)); intro gA hgA w5 hbox hb5; have HC5 := HCALL w5 gA 0 hbox (Nat.le_of_eq hgA.symm) hb5; have hcz5 : w5.cell? ⟨gA, 0, none⟩ = some (.int .i64 0) := (Za hbox 0).trans rfl; have hfz5 := Zb hbox 0; clear hbox hb5 hgA HCALL)
        | (go_at_call 70; refine HC5.mono ?_; rintro e w8 ⟨rfl, hb8, hcz8⟩; have HB8 := Aside0.mk hb8; clear hb8)
        | ((with_reducible refine gate_builtin (b := .append) (xs := #[.tmp 23, .tmp 25]) rfl ?_); at_builtin; refine Kd.R_append (Kd.int .i64) (w0 := w) w.heap.size rfl (.tmp 23) (.tmp 25) 31 3 (.int .i64 0) 8 rfl Try.underlying31 info3 rfl (by decide) (by omega) u3 y3 n9 [.int .i64 n9] (fun _ => True) (fun _ => False) rfl rfl ?aP (fun _ hk => hk.elim) ?aF ?aO ?aB ?aS ?aL ?_; (case aP => exact rfl); (case aB => exact (by repeat (first | exact (Zc HB.out HB8.out) | apply ZA | apply Zm | apply Zq))); (case aF => exact (fun k_ hk => trivial)); (case aO => exact (by (with_reducible repeat (first | apply Kd.R_alloc | apply Kd.R_drewN | apply Kd.R_drew)); exact Kd.R_below HO.out HB8.out)); (case aS => exact (Ze (by repeat (first | exact (Zc HB.out HB8.out) | apply ZA | apply Zm | apply Zq)))); (case aL => have := LMc7.out; omega); intro v23 w23 ho23 hb23 hg23 hat23; have HO2 := Aside0.mk ho23; have HB2 := Aside0.mk hb23; clear ho23 hb23 hg23 hat23))
      go_roundg k1
      case measure => have := HK1.out; omega
      case rel => exact ⟨y3 ++ [n9], (wrap64 (x15 + 1)), sm_, H', ⟨by have := HK1.out; omega⟩, HO2, HB2⟩

/-! ### impl_IsCertain: function 31 -/
def impl_IsCertain.f (k : Nat) (a0_0 : Int) (l0_1 : List (List Int)) (a1 : Int) : Option (Bool) := (impl_Preferred.f k a0_0 l0_1).bind fun t599 => ((impl_InAll.f k t599).bind fun t602 => ((slices_Contains_int_int.f k t602 a1).bind fun t605 => (some t605)))
theorem impl_IsCertain.mono : ∀ a0 a1 a2 k, LeO (impl_IsCertain.f k a0 a1 a2) (impl_IsCertain.f (k + 1) a0 a1 a2) := by
 intro a0 a1 a2 k
 unfold impl_IsCertain.f
 repeat' with_reducible first | apply impl_InAll.mono | apply impl_Preferred.mono | apply slices_Contains_int_int.mono | apply Zy | apply Zg | refine Zl ?_ ?_ | refine Zh ?_ (fun _ => ?_)
theorem impl_IsCertain.calls (k : Nat) (a0_0 : Int) (A0_1 : Option Addr) (c0_1 : Nat) (l0_1 : List (List Int)) (a1 : Int) (r : Bool) (w : World) (hr0_1 : Kd.C (Kd.slice 3 (Kd.int .i64)) w A0_1 l0_1.length l0_1) (hc0_1 : l0_1.length ≤ c0_1) (h : impl_IsCertain.f k a0_0 l0_1 a1 = some r) :
  Calls Try.prog 31 #[.agg #[.int .i64 a0_0, .slice A0_1 l0_1.length c0_1], .int .i64 a1] w fun e w' => e = .returned (.bool r) ∧ Below w.heap.size w w' := by
 have hu27 := Try.underlying27
 have HR0_1 := Aside0.mk hr0_1
 have HC0_1 := Aside0.mk hc0_1
 clear hr0_1 hc0_1
 have HB := Aside0.mk (Below.refl w.heap.size w)
 have H := h
 unfold impl_IsCertain.f at H
 clear h
 obtain ⟨t599, A3, H⟩ := bd_ H
 try dsimp only at H
 obtain ⟨t602, A4, H⟩ := bd_ H
 try dsimp only at H
 obtain ⟨t605, A5, H⟩ := bd_ H
 try dsimp only at H
 obtain rfl := Option.some.inj H
 go_enter Try.func31, Try.ntmps31
 go_wp2_with (first | ((with_reducible refine Zz (N := 2) rfl ?_); refine ZI ?hg (N := 2) ?hd (cs := #[.int .i64 a0_0, .slice A0_1 l0_1.length c0_1]) (t := 27) ?hr ?_; (case hd => rfl); (case hg => rfl); (case hr => first | (go_simp; done) | (go_simp; rfl)); intro gb598 hg w6 hbox hb; have BK598 := Aside0.mk (hbox); have GW598 := Aside0.mk ((hz_ hg : w.heap.size ≤ gb598)); have GE598 := Aside0.mk ((hz_ hg : w.heap.size ≤ gb598)); replace HB := Aside0.mk (Zc hB_ hb); clear hb hbox hg; obtain ⟨hcz7_0, hcz7_1, hfz7_0, hfz7_1⟩ := c2_ BK598.out) | ((with_reducible refine Zf (f := 22) rfl ?_); refine ZC (some 6) rfl rfl Try.func22 (by kernel_rfl) rfl #[.agg #[.int .i64 a0_0, .slice A0_1 l0_1.length c0_1]] rfl ar_ ?_; (with_reducible refine (impl_Preferred.calls k a0_0 _ _ l0_1 t599 _ ?side1 ?side2 A3.out).mono ?_); (case side1 => exact cb_ HR0_1.out); (case side2 => exact HC0_1.out); rintro e w8 ⟨v600, rfl, ho0, hb⟩; refine ⟨_, rfl, ?_⟩; have HO601 := Aside0.mk (Kd.S_lower ho0 (Ze hB_)); replace BK598 := Aside0.mk (Zd (bq_ BK598.out) hb); replace HB := Aside0.mk (Zc hB_ hb); (try clear hb); (try clear ho0); obtain ⟨Ao9, co9, eo9⟩ := Kd.S_slice HO601.out; subst eo9) | ((with_reducible refine Zf (f := 29) rfl ?_); refine ZC (some 7) rfl rfl Try.func29 (by kernel_rfl) rfl #[.slice Ao9 t599.length co9] rfl ar_ ?_; (with_reducible refine (impl_InAll.calls k _ _ t599 t602 _ ?side1 ?side2 A4.out).mono ?_); (case side1 => exact sA_ (Kd.S_reads' HO601.out).2.2); (case side2 => exact (Kd.S_reads' HO601.out).2.1); rintro e w10 ⟨v603, rfl, ho0, hb⟩; refine ⟨_, rfl, ?_⟩; replace HO601 := Aside0.mk (Kd.S_elder' (rS_ HO601.out) (Kd.R_base ho0) hb); have HO604 := Aside0.mk (Kd.R_lower ho0 (Ze hB_)); replace BK598 := Aside0.mk (Zd (bq_ BK598.out) hb); replace HB := Aside0.mk (Zc hB_ hb); (try clear hb); (try clear ho0); obtain ⟨Ao11, co11, eo11⟩ := Kd.R_slice HO604.out; subst eo11) | ((with_reducible refine Zf (f := 80) rfl ?_); refine ZC (some 9) rfl rfl Try.func80 (by kernel_rfl) rfl #[.slice Ao11 t602.length co11, .int .i64 a1] rfl ar_ ?_; (with_reducible refine (slices_Contains_int_int.calls k _ _ t602 a1 t605 _ ?side1 ?side2 A5.out).mono ?_); (case side1 => exact sA_ (ZE HO604.out).2.2); (case side2 => exact (ZE HO604.out).2.1); rintro e w' ⟨rfl, ⟨nd, rfl⟩⟩; refine ⟨_, rfl, ?_⟩))
 go_ret
 exact ⟨er_, hB_⟩

/-! ### impl_IsCredible: function 32 -/
/-- The first row that holds a number. -/
def inCred.l0 : Nat → List (List Int) → Int → Int → Option Int
  | 0, _, _, _ => none
  | k + 1, x0, x1, x8 => if x8 < (x0.length : Int) then (if 0 ≤ x8 then ((slices_Contains_int_int.f k (rd_L2 x0 x8) x1).bind fun t => (if t = true then (some x8) else (inCred.l0 k x0 x1 (wrap64 (x8 + 1))))) else (none)) else (some (-1))
theorem inCred.mono_l : ∀ k, (∀ y0 y1 y2, LeO (inCred.l0 k y0 y1 y2) (inCred.l0 (k + 1) y0 y1 y2))
  | 0 => fun _ _ _ => by (unfold inCred.l0; exact Zg _)
  | k + 1 => by
    have ih0 := inCred.mono_l k
    · intro y0 y1 y2
      unfold inCred.l0
      repeat' with_reducible first | apply ih0 | apply slices_Contains_int_int.mono | apply Zy | apply Zg | refine Zl ?_ ?_ | refine Zh ?_ (fun _ => ?_)
def impl_IsCredible.f (k : Nat) (a0_0 : Int) (l0_1 : List (List Int)) (a1 : Int) : Option Bool := (impl_Preferred.f k a0_0 l0_1).bind fun t1 => ((inCred.l0 k t1 a1 0).bind fun t2 => (some (decide (0 ≤ t2))))
theorem impl_IsCredible.mono : ∀ a0 a1 a2 k, LeO (impl_IsCredible.f k a0 a1 a2) (impl_IsCredible.f (k + 1) a0 a1 a2) := by
  intro a0 a1 a2 k
  unfold impl_IsCredible.f
  exact Zh (impl_Preferred.mono _ _ _) (fun _ => Zh (inCred.mono_l _ _ _ _) (fun _ => Zy _))
/-- The function value at a row, with the number in its box. -/
theorem inCred.fn (k : Nat) (A0 : Option Addr) (c0 : Nat) (l0 : List Int) (x : Int) (B : Nat) (r : Bool) (w : World) (hr0 : Kd.C (Kd.int .i64) w A0 l0.length l0) (hc0 : l0.length ≤ c0) (hcell : w.cell? ⟨B, 0, none⟩ = some (.int .i64 x)) (h : slices_Contains_int_int.f k l0 x = some r) :
    Calls Try.prog 81 #[.slice A0 l0.length c0, .pointer (some ⟨B, 0, none⟩)] w fun e w' => e = .returned (.bool r) ∧ Drawn0 w w' := by
  have hcon := fun W (h0 : Kd.C (Kd.int .i64) W A0 l0.length l0) => slices_Contains_int_int.calls k A0 c0 l0 x r W h0 hc0 h
  go_enter Try.func81, Try.ntmps81
  go_wp2_with (go_at_call 80; refine (hcon _ (by first | exact hr0 | exact Zu hr0 | exact Zp hr0 _)).mono ?_; rintro e w' ⟨rfl, ⟨nd, rfl⟩⟩)
  go_ret
  exact ⟨by first | rfl | (cases r <;> rfl) | (cases r <;> simp), dr_⟩
theorem inCred.finds (k : Nat) (A0 : Option Addr) (c0 : Nat) (l0 : List (List Int)) (x : Int) (B : Nat) (r : Int) (w : World) (hr0 : Kd.C (Kd.slice 3 (Kd.int .i64)) w A0 l0.length l0) (hc0 : l0.length ≤ c0) (hB : B < w.heap.size) (hcell : w.cell? ⟨B, 0, none⟩ = some (.int .i64 x)) (h : inCred.l0 k l0 x 0 = some r) :
    Calls Try.prog 98 #[.slice A0 l0.length c0, .func (.func 81) #[] #[.pointer (some ⟨B, 0, none⟩)]] w fun e w' => e = .returned (.int .i64 r) ∧ Drawn0 w w' := by
  have eg : ∀ args w, (callFunc 81 args).run Try.prog w = .ok (.enter 81 args) w := enters_of Try.func81 (by kernel_rfl) rfl
  have H' := Aside0.mk h
  have HR0 := Aside0.mk hr0
  have HCELL := Aside0.mk hcell
  have HBB := Aside0.mk hB
  clear h hr0 hcell hB
  go_enter Try.func98, Try.ntmps98
  go_wp2
  go_loopg [5, 8] k (fun kq _ v8 w' => ∃ (x8_1 : Int), v8 = .int .i64 x8_1 ∧ Aside0 (inCred.l0 kq l0 x x8_1 = some r) ∧ Aside0 (kq ≤ k) ∧ Drawn0 w w')
  case atStart => exact ⟨0, rfl, H', ⟨Nat.le_refl _⟩, dr_⟩
  case round =>
    clear H'
    obtain ⟨x8_1, rfl, HA, HK1, ⟨m1, rfl⟩⟩ := hrel
    cases gk with
    | zero => exact absurd HA.out (by simp [inCred.l0])
    | succ k1 =>
      have H := HA.out
      clear HA
      simp only [inCred.l0] at H
      by_cases c3 : x8_1 < (l0.length : Int)
      rotate_left
      ·rw [if_neg c3] at H
       have c3b0 : decide (x8_1 < (l0.length : Int)) = false := decide_eq_false c3
       clear c3
       obtain rfl := Option.some.inj H
       go_wp2
       go_ret
       exact ⟨rfl, dr_⟩
      rw [if_pos c3] at H
      have c3b0 : decide (x8_1 < (l0.length : Int)) = true := decide_eq_true c3
      by_cases c4 : 0 ≤ x8_1
      rotate_left
      ·rw [if_neg c4] at H
       exact absurd H (by simp)
      rw [if_pos c4] at H
      have c4b0 : decide (0 ≤ x8_1) = true := decide_eq_true c4
      have p101 : 0 ≤ (x8_1 : Int) := c4
      have q101 : x8_1 < (l0.length : Int) := c3
      clear c3 c4
      obtain ⟨ad101, A101_0, c101_0, e101, hx101_0, hl101_0, hi101_0⟩ := at_L2 HR0.out x8_1 p101 q101
      cases e101
      obtain ⟨t102, hcall, H⟩ : ∃ t102 : Bool, (Calls Try.prog 81 (#[.slice A101_0 (rd_L2 l0 x8_1).length c101_0] ++ #[.pointer (some ⟨B, 0, none⟩)]) (w.drewN m1) fun e w' => e = .returned (.bool t102) ∧ Drawn0 (w.drewN m1) w') ∧ (if t102 = true then (some x8_1) else (inCred.l0 k1 l0 x (wrap64 (x8_1 + 1)))) = some r := by
        have hce := (((Zm (Below.refl w.heap.size w) m1).cell (p := ⟨B, 0, none⟩) HBB.out).trans HCELL.out)
        obtain ⟨t, hw, H⟩ := Option.bind_eq_some_iff.mp H
        refine ⟨t, inCred.fn k1 A101_0 c101_0 (rd_L2 l0 x8_1) x B t (w.drewN m1) (Zp hi101_0 _) hl101_0 hce hw, H⟩
      clear hi101_0 hl101_0
      replace p101 := eq_true p101
      replace q101 := eq_true q101
      cases t102 with
      | true =>
        rw [if_pos rfl] at H
        obtain rfl := Option.some.inj H
        go_wp2_with (go_at_call 81; refine hcall.mono ?_; rintro e w' ⟨rfl, ⟨nd, rfl⟩⟩)
        go_ret
        exact ⟨rfl, dr_⟩
      | false =>
        rw [if_neg (by decide)] at H
        have H' := Aside0.mk H
        clear H
        go_wp2_with (go_at_call 81; refine hcall.mono ?_; rintro e w' ⟨rfl, ⟨nd, rfl⟩⟩)
        go_roundg k1
        case measure => have := HK1.out; omega
        case rel => exact ⟨(wrap64 (x8_1 + 1)), sm_, H', ⟨by have := HK1.out; omega⟩, dr_⟩
theorem inCred.calls (k : Nat) (A0 : Option Addr) (c0 : Nat) (l0 : List (List Int)) (x : Int) (B : Nat) (r : Int) (w : World) (hr0 : Kd.C (Kd.slice 3 (Kd.int .i64)) w A0 l0.length l0) (hc0 : l0.length ≤ c0) (hB : B < w.heap.size) (hcell : w.cell? ⟨B, 0, none⟩ = some (.int .i64 x)) (h : inCred.l0 k l0 x 0 = some r) :
    Calls Try.prog 70 #[.slice A0 l0.length c0, .func (.func 81) #[] #[.pointer (some ⟨B, 0, none⟩)]] w fun e w' => e = .returned (.bool (decide (0 ≤ r))) ∧ Drawn0 w w' := by
  have hcon := fun m => inCred.finds k A0 c0 l0 x B r (w.drewN m) (Zp hr0 _) hc0 (by simpa [World.drewN] using hB) (((Zm (Below.refl w.heap.size w) m).cell (p := ⟨B, 0, none⟩) hB).trans hcell) h
  have hcon0 := inCred.finds k A0 c0 l0 x B r w hr0 hc0 hB hcell h
  clear hr0 h hcell
  have hge : decide (r ≥ 0) = decide (0 ≤ r) := rfl
  go_enter Try.func70, Try.ntmps70
  go_wp2_with (go_at_call 98; first | (refine hcon0.mono ?_; rintro e w' ⟨rfl, ⟨nd, rfl⟩⟩) | (refine (hcon _).mono ?_; rintro e w' ⟨rfl, ⟨nd, rfl⟩⟩))
  go_ret
  exact ⟨by first | rfl | (simp; done), dr_⟩
theorem impl_IsCredible.calls (k : Nat) (a0_0 : Int) (A0_1 : Option Addr) (c0_1 : Nat) (l0_1 : List (List Int)) (a1 : Int) (r : Bool) (w : World) (hr0_1 : Kd.C (Kd.slice 3 (Kd.int .i64)) w A0_1 l0_1.length l0_1) (hc0_1 : l0_1.length ≤ c0_1) (h : impl_IsCredible.f k a0_0 l0_1 a1 = some r) :
    Calls Try.prog 32 #[.agg #[.int .i64 a0_0, .slice A0_1 l0_1.length c0_1], .int .i64 a1] w fun e w' => e = .returned (.bool r) ∧ Below w.heap.size w w' := by
  have hu27 := Try.underlying27
  have HR0_1 := Aside0.mk hr0_1
  have HC0_1 := Aside0.mk hc0_1
  clear hr0_1 hc0_1
  have HB := Aside0.mk (Below.refl w.heap.size w)
  have H := h
  unfold impl_IsCredible.f at H
  clear h
  replace H := Option.bind_eq_some_iff.mp H
  obtain ⟨t599, A30, H⟩ := H
  have A3 := Aside0.mk A30
  clear A30
  replace H := Option.bind_eq_some_iff.mp H
  obtain ⟨t602, A40, H⟩ := H
  have A4 := Aside0.mk A40
  clear A40
  obtain rfl := Option.some.inj H
  go_enter Try.func32, Try.ntmps32
  go_wp2_with (first
    | ((with_reducible refine Zz (N := 2) rfl ?_); refine ZI ?hg (N := 2) ?hd (cs := #[.int .i64 a0_0, .slice A0_1 l0_1.length c0_1]) (t := 27) ?hr ?_; (case hd => rfl); (case hg => rfl); (case hr => first | (go_simp; done) | (go_simp; rfl)); intro gb598 hg w6 hbox hb; have n0_ := Aside0.mk (Zc hB_ hb); have BK598 := Aside0.mk (hbox); have GE598 := Aside0.mk ((hz_ hg : w.heap.size ≤ gb598)); clear HB; have HB := n0_; clear n0_; clear hb hbox hg; obtain ⟨hcz7_0, hcz7_1, hfz7_0, hfz7_1⟩ := c2_ BK598.out)
    | ((with_reducible refine Zz (N := 3) rfl ?_); refine ZI ?hg (N := 3) ?hd (cs := #[.int .i64 a1]) (t := 3) ?hr ?_; (case hd => rfl); (case hg => rfl); (case hr => first | (go_simp; done) | (go_simp; rfl)); intro gb599 hg w8 hbox hb; have n0_ := Aside0.mk (Zc hB_ hb); have n1_ := Aside0.mk (Zd (bq_ BK598.out) hb); have BK599 := Aside0.mk (hbox); have GE599 := Aside0.mk ((hz_ hg : w.heap.size ≤ gb599)); clear HB BK598; have HB := n0_; have BK598 := n1_; clear n0_ n1_; clear hb hbox hg; clear hcz7_0 hcz7_1 hfz7_0 hfz7_1; obtain ⟨hcz8_0, hcz8_1, hfz8_0, hfz8_1⟩ := c2_ BK598.out)
    | (go_at_call 22; (with_reducible refine (impl_Preferred.calls k a0_0 _ _ l0_1 t599 _ ?side1 ?side2 A3.out).mono ?_); (case side1 => exact cb_ HR0_1.out); (case side2 => exact HC0_1.out); rintro e w9 ⟨v600, rfl, ho0, hb⟩; have n2_ := Aside0.mk (Zd (bq_ BK599.out) hb); have n3_ := Aside0.mk (Zc hB_ hb); obtain ⟨Ao9, co9, eo9⟩ := Kd.S_slice ho0; subst eo9; have HO601 := Aside0.mk (Kd.S_reads' ho0).2; clear BK598 BK599 HB; have BK599 := n2_; have HB := n3_; clear n2_ n3_; (try clear hb); (try clear ho0); have hcz9 : w9.cell? ⟨gb599, 0, none⟩ = some (.int .i64 a1) := (Za BK599.out 0).trans rfl; have HCR := fun m => inCred.calls k Ao9 co9 t599 a1 gb599 t602 (w9.drewN m) (Zp HO601.out.2 _) HO601.out.1 (blk_lt (Zk BK599.out m)) ((Za (Zk BK599.out m) 0).trans rfl) A4.out; have HCR0 := inCred.calls k Ao9 co9 t599 a1 gb599 t602 w9 HO601.out.2 HO601.out.1 (blk_lt BK599.out) hcz9 A4.out)
    | (go_at_call 70; first | (refine HCR0.mono ?_; rintro e w' ⟨rfl, ⟨nd, rfl⟩⟩) | (refine (HCR _).mono ?_; rintro e w' ⟨rfl, ⟨nd, rfl⟩⟩)))
  go_ret
  exact ⟨by first | rfl | (simp; done), hB_⟩

end Go.Proofs.Ytdlobolnajcfnaa.PFnPositions
