-- Written by a program of this session (hooks of mine on the print): Lean checks it.
import Derived.Test.YtdlobolnajcfnaaPFnDisputesx0
import Derived.Test.YtdlobolnajcfnaaPFnDisputesx5
import Derived.Test.YtdlobolnajcfnaaPFnDisputesx6
import Derived.Test.YtdlobolnajcfnaaPFnDisputesx9
namespace Go.Proofs.Ytdlobolnajcfnaa.PFnDisputes
open Go.RowKit Go.Proofs.YtdlobolnajcfnaaW.PrintWords Go.Proofs.YtdlobolnajcfnaaW.PrintLast Go.Proofs.YtdlobolnajcfnaaW.PrintMore
attribute [local go_sem] max2_int min2_int max_two min_two max_three min_three max_four min_four   -- for this text's walks alone
set_option linter.unusedVariables false
set_option linter.unusedSimpArgs false
set_option maxHeartbeats 8000000
set_option maxRecDepth 100000

/-! ### spec_l4Any: function 96 -/
def spec_l4Any.j0 : Nat → List Int → Int → Int → Int → List (List Int) → Option (Int × (List (List Int)) × Int × Int)
 | 0, _, _, _, _, _ => none
 | k + 1, x1000, x1001, x1002, x329000, x329001 => some (x329000, x329001, x1001, x1002)
def spec_l4Any.f (k : Nat) (s0_0 : List Int) (s0_1 : Int) (s0_2 : Int) : Option (Int × (List (List Int)) × Int × Int) := (spec_l4Draw.f k s0_0 s0_1 s0_2).bind fun bt322 => ((spec_l1Below.f s0_0 bt322.2.2.1 bt322.2.2.2 14).bind fun bt329 => (if bt329.1 = 0 then ((spec_l4Raw.f s0_0 bt329.2.1 bt329.2.2).bind fun bt332 => (spec_l4Any.j0 k s0_0 bt332.2.1 bt332.2.2 bt332.1 bt322.2.1)) else (if bt329.1 = 1 then (if bt322.2.1.length < 5864062014805 then (spec_l4Any.j0 k s0_0 bt329.2.1 bt329.2.2 bt322.1 (bt322.2.1 ++ [(([0] : List Int))])) else (none)) else (if bt329.1 = 2 then ((spec_l1Below.f s0_0 bt329.2.1 bt329.2.2 7).bind fun bt341 => ((spec_l1Below.f s0_0 bt341.2.1 bt341.2.2 7).bind fun bt344 => (if bt322.2.1.length < 5864062014805 then (spec_l4Any.j0 k s0_0 bt344.2.1 bt344.2.2 bt322.1 (bt322.2.1 ++ [(([bt341.1, bt344.1] : List Int))])) else (none)))) else (spec_l4Any.j0 k s0_0 bt329.2.1 bt329.2.2 bt322.1 bt322.2.1)))))
theorem spec_l4Any.mono_l : ∀ k, (∀ y0 y1 y2 y3 y4, LeO (spec_l4Any.j0 k y0 y1 y2 y3 y4) (spec_l4Any.j0 (k + 1) y0 y1 y2 y3 y4))
 | 0 => fun _ _ _ _ _ r h => by simp [spec_l4Any.j0] at h
 | k + 1 => by
  have ih0 := spec_l4Any.mono_l k
  ·intro y0 y1 y2 y3 y4
   unfold spec_l4Any.j0
   repeat' with_reducible first | apply ih0 | apply spec_l4Draw.mono | apply ZJ | apply Zn | refine Zu ?_ ?_ | refine Zo ?_ (fun _ => ?_)
theorem spec_l4Any.mono : ∀ a0 a1 a2 k, LeO (spec_l4Any.f k a0 a1 a2) (spec_l4Any.f (k + 1) a0 a1 a2) := by
 intro a0 a1 a2 k
 have ih0 := spec_l4Any.mono_l k
 unfold spec_l4Any.f
 repeat' with_reducible first | apply ih0 | apply spec_l4Draw.mono | apply ZJ | apply Zn | refine Zu ?_ ?_ | refine Zo ?_ (fun _ => ?_)
def spec_l4Any.T8 : Bool × List (List Nat × List Nat) := (true, [([], []), ([0], [0]), ([], []), ([2], [2]), ([], []), ([4, 3], [4]), ([3, 5], [3, 5]), ([6], [6]), ([1, 7, 5], [1, 7]), ([0, 1, 2, 3, 4, 5, 6, 7, 8], []), ([9, 8, 8, 0, 1, 2, 3, 4, 5, 6, 7, 8], [8, 9])])
def spec_l4Any.B8 : List Nat := [0, 1, 0, 4, 0, 28, 60, 124, 255, 511, 1023]
theorem spec_l4Any.tab8 : rtab .any (opsOf Try.f96 8) = spec_l4Any.T8 := by kernel_rfl
theorem spec_l4Any.bits8 : waitsOk spec_l4Any.T8.2 spec_l4Any.B8 = true := by kernel_rfl
theorem spec_l4Any.calls (k : Nat) (g : Nat) (s0_0 : List Int) (s0_1 : Int) (s0_2 : Int) (r1 : Int) (r2 : List (List Int)) (r3 : Int) (r4 : Int) (w0 w : World) (hI : IsS93 w0 w g s0_0 s0_1 s0_2) (hB : Below w0.heap.size w0 w) (h : spec_l4Any.f k s0_0 s0_1 s0_2 = some (r1, r2, r3, r4)) :
  Calls Try.prog 96 #[.pointer (some ⟨g, 0, none⟩)] w fun e w' => ∃ v1_ : Value, e = .returned (.agg #[.int .i64 r1, v1_]) ∧ Kd.S (Kd.slice 3 (Kd.int .i64)) 31 w' w.heap.size (fun _ => True) v1_ r2 ∧ IsS93 w0 w' g s0_0 r3 r4 ∧ Below w0.heap.size w0 w' ∧ KeepBut w w' g none := by
 have hu27 := Try.underlying27
 have HI0 := Aside0.mk hI
 have HK := Aside0.mk (KeepBut.refl w g none)
 have HL := Aside0.mk hB.size
 clear hI
 have HW0 := Aside0.mk hB.size
 have HB := Aside0.mk hB
 clear hB
 have H := h
 unfold spec_l4Any.f at H
 clear h
 obtain ⟨⟨t322, t323, t326, t327⟩, A2, H⟩ := bd_ H
 try dsimp only at H
 obtain ⟨⟨t329, t330, t331⟩, A3, H⟩ := bd_ H
 try dsimp only at H
 have HC4 := Aside0.mk H
 clear H
 go_enter Try.func96, Try.ntmps96
 go_upto_block 0 with (first | ((with_reducible refine ZA (N := 2) rfl ?_); refine ZC ?hg (N := 2) ?hd (cs := #[.int .i64 0, .slice none 0 0]) (t := 27) ?hr ?_; (case hd => rfl); (case hg => rfl); (case hr => first | (go_simp; done) | (go_simp; rfl)); intro gb321 hg w5 hbox hb; replace HB := Aside0.mk (Zh (by repeat (first | (with_reducible first | exact HB.out | apply Zk | apply Zi | apply Zj | refine Zc ?_ (IsS93.ge HI0.out)) | exact HB.out)) hb); have BK321 := Aside0.mk (hbox); have GW321 := Aside0.mk ((by rw [hg]; exact (keep_size (w := w) (g := g) (row := none) (qA_ HK.out)) : w.heap.size ≤ gb321)); have GE321 := Aside0.mk ((Nat.le_trans HW0.out (by rw [hg]; exact (keep_size (w := w) (g := g) (row := none) (qA_ HK.out)) : w.heap.size ≤ gb321) : w0.heap.size ≤ gb321)); replace HK := Aside0.mk (KeepBut.trans (qA_ HK.out) (KeepBut.of_below hb g none) (.inl rfl)); have NB0_321 := Aside0.mk ((by rw [hg]; exact Nat.ne_of_lt (IsS93.lt (show IsS93 w0 _ g s0_0 s0_1 s0_2 from by exact qB_ HI0.out)) : g ≠ gb321)); have NB321_0 := Aside0.mk ((by rw [hg]; exact Nat.ne_of_gt (IsS93.lt (show IsS93 w0 _ g s0_0 s0_1 s0_2 from by exact qB_ HI0.out)) : gb321 ≠ g)); replace HI0 := Aside0.mk (IsS93.below (qB_ HI0.out) hb); clear hb hbox hg) | ((with_reducible refine Zl (f := 120) rfl ?_); refine ZI (some 5) rfl rfl Try.func120 (by kernel_rfl) rfl #[.pointer (some ⟨g, 0, none⟩)] rfl ar_ ?_; (with_reducible refine (spec_l4Draw.calls k g s0_0 s0_1 s0_2 t322 t323 t326 t327 w0 _ ?side1 ?side2 A2.out).mono ?_); (case side1 => repeat (first | (with_reducible first | exact HI0.out | apply IsS93.alloc | apply IsS93.drewN | apply IsS93.drew | apply IsS93.set_1 | apply IsS93.set_2 | refine IsS93.far ?_ NB0_321.out _) | exact HI0.out)); (case side2 => repeat (first | (with_reducible first | exact HB.out | apply Zk | apply Zi | apply Zj | refine Zc ?_ (IsS93.ge HI0.out) | refine Zc ?_ GE321.out) | exact HB.out)); rintro e w6 ⟨v324, rfl, ho0, hi, hb, hk⟩; refine ⟨_, rfl, ?_⟩; replace BK321 := Aside0.mk (ZR hk (g' := gb321) (o := .cells #[.int .i64 0, .slice none 0 0] 27 (0, 0)) (bk_ BK321.out) NB321_0.out (by simp)); have HO325 := Aside0.mk (Kd.S_lower ho0 (keep_size (w := w) (g := g) (row := none) (by repeat (first | (with_reducible first | exact HK.out | apply Zy | apply ZD | apply ZL | apply ZE | refine ZV ?_ GW321.out _) | exact HK.out)))); replace HK := Aside0.mk (KeepBut.trans (by repeat (first | (with_reducible first | exact HK.out | apply Zy | apply ZD | apply ZL | apply ZE | refine ZV ?_ GW321.out _) | exact HK.out)) hk (.inl rfl)); replace HB := Aside0.mk (hb); replace HI0 := Aside0.mk (hi); (try clear hb); (try clear hk); (try clear hi); (try clear ho0)) | ((with_reducible refine ZA (N := 3) rfl ?_); refine ZC ?hg (N := 3) ?hd (cs := #[.int .i64 0, .slice none 0 0]) (t := 27) ?hr ?_; (case hd => rfl); (case hg => rfl); (case hr => first | (go_simp; done) | (go_simp; rfl)); intro gb328 hg w7 hbox hb; replace HO325 := Aside0.mk (Zz (rS_ HO325.out) hb); replace HB := Aside0.mk (Zh (by repeat (first | (with_reducible first | exact HB.out | apply Zk | apply Zi | apply Zj | refine Zc ?_ (IsS93.ge HI0.out) | refine Zc ?_ GE321.out) | exact HB.out)) hb); have BK328 := Aside0.mk (hbox); have GW328 := Aside0.mk ((by rw [hg]; exact (keep_size (w := w) (g := g) (row := none) (by repeat (first | (with_reducible first | exact HK.out | apply Zy | apply ZD | apply ZL | apply ZE | refine ZV ?_ GW321.out _) | exact HK.out))) : w.heap.size ≤ gb328)); have GE328 := Aside0.mk ((Nat.le_trans HW0.out (by rw [hg]; exact (keep_size (w := w) (g := g) (row := none) (by repeat (first | (with_reducible first | exact HK.out | apply Zy | apply ZD | apply ZL | apply ZE | refine ZV ?_ GW321.out _) | exact HK.out))) : w.heap.size ≤ gb328) : w0.heap.size ≤ gb328)); replace HK := Aside0.mk (KeepBut.trans (by repeat (first | (with_reducible first | exact HK.out | apply Zy | apply ZD | apply ZL | apply ZE | refine ZV ?_ GW321.out _) | exact HK.out)) (KeepBut.of_below hb g none) (.inl rfl)); have NB321_328 := Aside0.mk ((by rw [hg]; exact Nat.ne_of_lt (ZS (bq_ BK321.out)) : gb321 ≠ gb328)); have NB328_321 := Aside0.mk ((by rw [hg]; exact Nat.ne_of_gt (ZS (bq_ BK321.out)) : gb328 ≠ gb321)); replace BK321 := Aside0.mk (Zg (bq_ BK321.out) hb); have NB0_328 := Aside0.mk ((by rw [hg]; exact Nat.ne_of_lt (IsS93.lt (show IsS93 w0 _ g s0_0 t326 t327 from by repeat (first | (with_reducible first | exact HI0.out | apply IsS93.alloc | apply IsS93.drewN | apply IsS93.drew | apply IsS93.set_1 | apply IsS93.set_2 | refine IsS93.far ?_ NB0_321.out _) | exact HI0.out))) : g ≠ gb328)); have NB328_0 := Aside0.mk ((by rw [hg]; exact Nat.ne_of_gt (IsS93.lt (show IsS93 w0 _ g s0_0 t326 t327 from by repeat (first | (with_reducible first | exact HI0.out | apply IsS93.alloc | apply IsS93.drewN | apply IsS93.drew | apply IsS93.set_1 | apply IsS93.set_2 | refine IsS93.far ?_ NB0_321.out _) | exact HI0.out))) : gb328 ≠ g)); replace HI0 := Aside0.mk (IsS93.below (by repeat (first | (with_reducible first | exact HI0.out | apply IsS93.alloc | apply IsS93.drewN | apply IsS93.drew | apply IsS93.set_1 | apply IsS93.set_2 | refine IsS93.far ?_ NB0_321.out _) | exact HI0.out)) hb); clear hb hbox hg; have hnb8 := NB328_321.out; have hnc8 := NB321_328.out; have hnb9 := NB328_0.out; have hnc9 := NB0_328.out; obtain ⟨hcz10_0, hcz10_1, hfz10_0, hfz10_1⟩ := c2_ BK328.out; obtain ⟨Ao11, co11, eo11⟩ := ZN HO325.out; subst eo11) | ((with_reducible refine Zl (f := 84) rfl ?_); refine ZI (some 7) rfl rfl Try.func84 (by kernel_rfl) rfl #[.pointer (some ⟨g, 0, none⟩), .int .i64 14] rfl ar_ ?_; (with_reducible refine (spec_l1Below.calls g s0_0 t326 t327 14 t329 t330 t331 w0 _ ?side1 ?side2 A3.out).mono ?_); (case side1 => repeat (first | (with_reducible first | exact HI0.out | apply IsS93.alloc | apply IsS93.drewN | apply IsS93.drew | apply IsS93.set_1 | apply IsS93.set_2 | refine IsS93.far ?_ NB0_321.out _ | refine IsS93.far ?_ NB0_328.out _) | exact HI0.out)); (case side2 => repeat (first | (with_reducible first | exact HB.out | apply Zk | apply Zi | apply Zj | refine Zc ?_ (IsS93.ge HI0.out) | refine Zc ?_ GE321.out | refine Zc ?_ GE328.out) | exact HB.out)); rintro e w12 ⟨rfl, hi, hb, hk⟩; refine ⟨_, rfl, ?_⟩; replace BK321 := Aside0.mk (ZR hk (g' := gb321) (o := .cells #[.int .i64 0, .slice none 0 0] 27 (0, 0)) (by (with_reducible repeat (first | refine Ze ?_ _ | refine Zf ?_ | refine Zd ?_ _)); refine ZG ?_ NB321_328.out _; (with_reducible repeat (first | refine Ze ?_ _ | refine Zf ?_ | refine Zd ?_ _)); refine ZG ?_ NB321_328.out _; (with_reducible repeat (first | refine Ze ?_ _ | refine Zf ?_ | refine Zd ?_ _)); exact BK321.out) NB321_0.out (by simp)); replace HO325 := Aside0.mk (Zt (Kd.S_keep (IsS93.apartS (show IsS93 w0 _ g s0_0 t326 t327 from by repeat (first | (with_reducible first | exact HI0.out | apply IsS93.alloc | apply IsS93.drewN | apply IsS93.drew | apply IsS93.set_1 | apply IsS93.set_2 | refine IsS93.far ?_ NB0_321.out _ | refine IsS93.far ?_ NB0_328.out _) | exact HI0.out)) (by (with_reducible repeat (first | apply Zs | apply Zr | apply Zp)); exact (Zt (Zq (p := ⟨gb328, 1, none⟩) (Zq (p := ⟨gb328, 0, none⟩) (Zv HO325.out BK328.out (by decide)) (fun _ hk => hk.2) (.int .i64 t322)) (fun _ hk => hk.2) (.slice Ao11 t323.length co11)) (fun _ h_ => h_.1))) (by decide)) hk (fun _ h => h.2)) (fun _ h => h.1)); replace BK328 := Aside0.mk (ZR hk (g' := gb328) (o := .cells #[.int .i64 t322, .slice Ao11 t323.length co11] 27 (0, 0)) (by (with_reducible repeat (first | refine Ze ?_ _ | refine Zf ?_ | refine Zd ?_ _)); refine ZB (cs := #[.int .i64 t322, .slice none 0 0]) ?_ 1 _ rfl; (with_reducible repeat (first | refine Ze ?_ _ | refine Zf ?_ | refine Zd ?_ _)); refine ZB (cs := #[.int .i64 0, .slice none 0 0]) ?_ 0 _ rfl; (with_reducible repeat (first | refine Ze ?_ _ | refine Zf ?_ | refine Zd ?_ _)); exact BK328.out) NB328_0.out (by simp)); replace HK := Aside0.mk (KeepBut.trans (by repeat (first | (with_reducible first | exact HK.out | apply Zy | apply ZD | apply ZL | apply ZE | refine ZV ?_ GW321.out _ | refine ZV ?_ GW328.out _) | exact HK.out)) hk (.inl rfl)); replace HB := Aside0.mk (hb); replace HI0 := Aside0.mk (hi); (try clear hb); (try clear hk); (try clear hi)))
 (try simp only [Act.put, ZW, List.set_cons_zero, List.set_cons_succ])
 go_cut [] (fun wc => ∃ (kq : Nat) (x1001_3 : Int) (x1002_3 : Int) (x329000_3 : Int) (x329001_3 : List (List Int)) (u329001 : Value), Aside0 (spec_l4Any.j0 kq s0_0 x1001_3 x1002_3 x329000_3 x329001_3 = some (r1, r2, r3, r4)) ∧ Aside0 (kq ≤ k) ∧ Aside0 (Kd.S (Kd.slice 3 (Kd.int .i64)) 31 wc w.heap.size (fun _ => True) u329001 x329001_3) ∧ Aside0 (wc.heap[gb321]? = some (.cells #[.int .i64 0, (.slice none 0 0)] 27 (0, 0))) ∧ Aside0 (wc.heap[gb328]? = some (.cells #[.int .i64 x329000_3, u329001] 27 (0, 0))) ∧ Aside0 (IsS93 w0 wc g s0_0 x1001_3 x1002_3) ∧ Aside0 (KeepBut w wc g none) ∧ Aside0 (Below w0.heap.size w0 wc))
 case first =>
  have H := HC4.out
  clear HC4
  by_cases c13 : t329 = 0
  ·rw [if_pos c13] at H
   have c13b0 : (t329 == 0) = true := beq_iff_eq.mpr c13
   have c13b1 : (t329 != 0) = false := bne_eq_false_iff_eq.mpr c13
   clear c13
   (first | rw [c13b0] | (simp only [i64_w, i32_w]; rw [c13b0]) | skip)
   obtain ⟨⟨t332, t333, t334⟩, A14, H⟩ := bd_ H
   try dsimp only at H
   have H' := Aside0.mk H
   clear H
   go_wp2_with (first | ((with_reducible refine Zl (f := 121) rfl ?_); refine ZI (some 11) rfl rfl Try.func121 (by kernel_rfl) rfl #[.pointer (some ⟨g, 0, none⟩)] rfl ar_ ?_; (with_reducible refine (spec_l4Raw.calls g s0_0 t330 t331 t332 t333 t334 w0 _ ?side1 ?side2 A14.out).mono ?_); (case side1 => repeat (first | (with_reducible first | exact HI0.out | apply IsS93.alloc | apply IsS93.drewN | apply IsS93.drew | apply IsS93.set_1 | apply IsS93.set_2 | refine IsS93.far ?_ NB0_321.out _ | refine IsS93.far ?_ NB0_328.out _) | exact HI0.out)); (case side2 => repeat (first | (with_reducible first | exact HB.out | apply Zk | apply Zi | apply Zj | refine Zc ?_ (IsS93.ge HI0.out) | refine Zc ?_ GE321.out | refine Zc ?_ GE328.out) | exact HB.out)); rintro e w15 ⟨rfl, hi, hb, hk⟩; refine ⟨_, rfl, ?_⟩; replace BK321 := Aside0.mk (ZR hk (g' := gb321) (o := .cells #[.int .i64 0, .slice none 0 0] 27 (0, 0)) (bk_ BK321.out) NB321_0.out (by simp)); replace HO325 := Aside0.mk (Zt (Kd.S_keep (IsS93.apartS (show IsS93 w0 _ g s0_0 t330 t331 from by repeat (first | (with_reducible first | exact HI0.out | apply IsS93.alloc | apply IsS93.drewN | apply IsS93.drew | apply IsS93.set_1 | apply IsS93.set_2 | refine IsS93.far ?_ NB0_321.out _ | refine IsS93.far ?_ NB0_328.out _) | exact HI0.out)) (rS_ HO325.out) (by decide)) hk (fun _ h => h.2)) (fun _ h => h.1)); replace BK328 := Aside0.mk (ZR hk (g' := gb328) (o := .cells #[.int .i64 t322, .slice Ao11 t323.length co11] 27 (0, 0)) (bk_ BK328.out) NB328_0.out (by simp)); replace HK := Aside0.mk (KeepBut.trans (by repeat (first | (with_reducible first | exact HK.out | apply Zy | apply ZD | apply ZL | apply ZE | refine ZV ?_ GW321.out _ | refine ZV ?_ GW328.out _) | exact HK.out)) hk (.inl rfl)); replace HB := Aside0.mk (hb); replace HI0 := Aside0.mk (hi); (try clear hb); (try clear hk); (try clear hi); have hnb16 := NB328_321.out; have hnc16 := NB321_328.out; have hnb17 := NB328_0.out; have hnc17 := NB0_328.out; obtain ⟨hcz18_0, hcz18_1, hfz18_0, hfz18_1⟩ := c2_ BK328.out))
   go_meet
   case rel => exact ⟨_, (t333), (t334), (t332), (t323), (.slice Ao11 t323.length co11), H', ⟨by first | omega | exact Nat.le_refl _⟩, ⟨by (with_reducible repeat (first | apply Zs | apply Zr | apply Zp)); exact Zt (Zq (p := ⟨gb328, 0, none⟩) (Zv HO325.out BK328.out (by decide)) (fun _ hk => hk.2) (.int .i64 t332)) (fun _ hk => trivial)⟩, ⟨by (with_reducible repeat (first | refine Ze ?_ _ | refine Zf ?_ | refine Zd ?_ _)); refine ZG ?_ NB321_328.out _; (with_reducible repeat (first | refine Ze ?_ _ | refine Zf ?_ | refine Zd ?_ _)); exact BK321.out⟩, ⟨by (with_reducible repeat (first | refine Ze ?_ _ | refine Zf ?_ | refine Zd ?_ _)); refine ZB (cs := #[.int .i64 t322, .slice Ao11 t323.length co11]) ?_ 0 _ rfl; (with_reducible repeat (first | refine Ze ?_ _ | refine Zf ?_ | refine Zd ?_ _)); exact BK328.out⟩, ⟨by repeat (first | (with_reducible first | exact HI0.out | apply IsS93.alloc | apply IsS93.drewN | apply IsS93.drew | apply IsS93.set_1 | apply IsS93.set_2 | refine IsS93.far ?_ NB0_321.out _ | refine IsS93.far ?_ NB0_328.out _) | exact HI0.out)⟩, ⟨by repeat (first | (with_reducible first | exact HK.out | apply Zy | apply ZD | apply ZL | apply ZE | refine ZV ?_ GW321.out _ | refine ZV ?_ GW328.out _) | exact HK.out)⟩, ⟨by repeat (first | (with_reducible first | exact HB.out | apply Zk | apply Zi | apply Zj | refine Zc ?_ (IsS93.ge HI0.out) | refine Zc ?_ GE321.out | refine Zc ?_ GE328.out) | exact HB.out)⟩⟩
  rw [if_neg c13] at H
  have c13b0 : (t329 == 0) = false := beq_eq_false_iff_ne.mpr c13
  have c13b1 : (t329 != 0) = true := bne_iff_ne.mpr c13
  (first | rw [c13b0] | (simp only [i64_w, i32_w]; rw [c13b0]) | skip)
  by_cases c19 : t329 = 1
  ·rw [if_pos c19] at H
   have c19b0 : (t329 == 1) = true := beq_iff_eq.mpr c19
   have c19b1 : (t329 != 1) = false := bne_eq_false_iff_eq.mpr c19
   clear c19
   obtain ⟨y335, hy335⟩ : ∃ y_ : List Int, y_ = (([0] : List Int)) := ⟨_, rfl⟩
   replace H : (if t323.length < 5864062014805 then (spec_l4Any.j0 k s0_0 t330 t331 t322 (t323 ++ [y335])) else (none)) = some (r1, r2, r3, r4) := hy_ hy335 H
   have Ny335 := Aside0.mk hy335
   clear hy335
   by_cases c20 : t323.length < 5864062014805
   rotate_left
   ·rw [if_neg c20] at H
    exact absurd H (by simp)
   rw [if_pos c20] at H
   have LMc20 := Aside0.mk c20
   clear c20
   obtain ⟨y338, hy338⟩ : ∃ y_ : List (List Int), y_ = (t323 ++ [y335]) := ⟨_, rfl⟩
   replace H : (spec_l4Any.j0 k s0_0 t330 t331 t322 y338) = some (r1, r2, r3, r4) := hy_ hy338 H
   have Ny338 := Aside0.mk hy338
   clear hy338
   have H' := Aside0.mk H
   clear H
   have hnb21 := NB328_321.out
   have hnc21 := NB321_328.out
   have hnb22 := NB328_0.out
   have hnc22 := NB0_328.out
   obtain ⟨hcz23_0, hcz23_1, hfz23_0, hfz23_1⟩ := c2_ BK328.out
   go_wp2_with (first | ((with_reducible refine ZA (N := 17) rfl ?_); refine Kd.R_lit (Kd.int .i64) _ 3 ?hg (N := 17) ?hd (xs := ([0] : List Int)) (inner := [.int .i64 0]) (ok := fun _ => True) (okp := fun _ => True) ?hr ?hp (fun _ hk => hk) trivial (Below.refl _ _) (Nat.le_refl _) (by simp) ?_; (case hd => rfl); (case hg => rfl); (case hr => first | (go_simp; done) | (go_simp; rfl)); (case hp => exact (Reps.one (show Kd.M (Kd.int .i64) _ _ _ 0 [.int .i64 0] from rfl) (Reps.none _ _))); intro v336 w24 ho25 hb hg_ hnew_; clear hg_ hnew_; (first | rw [← Ny335.out] at ho25 | (simp only [Int.reduceToNat] at ho25; rw [← Ny335.out] at ho25)); replace HO325 := Aside0.mk (Kd.S_elder' (rS_ HO325.out) (Kd.R_base ho25) hb); have HO337 := Aside0.mk (Kd.R_lower ho25 (keep_size (w := w) (g := g) (row := none) (by repeat (first | (with_reducible first | exact HK.out | apply Zy | apply ZD | apply ZL | apply ZE | refine ZV ?_ GW321.out _ | refine ZV ?_ GW328.out _) | exact HK.out)))); replace BK321 := Aside0.mk (Zg (bq_ BK321.out) hb); replace BK328 := Aside0.mk (Zg (bq_ BK328.out) hb); replace HK := Aside0.mk (KeepBut.trans (by repeat (first | (with_reducible first | exact HK.out | apply Zy | apply ZD | apply ZL | apply ZE | refine ZV ?_ GW321.out _ | refine ZV ?_ GW328.out _) | exact HK.out)) (KeepBut.of_below hb g none) (.inl rfl)); replace HB := Aside0.mk (Zh (by repeat (first | (with_reducible first | exact HB.out | apply Zk | apply Zi | apply Zj | refine Zc ?_ (IsS93.ge HI0.out) | refine Zc ?_ GE321.out | refine Zc ?_ GE328.out) | exact HB.out)) hb); replace HI0 := Aside0.mk (IsS93.below (by repeat (first | (with_reducible first | exact HI0.out | apply IsS93.alloc | apply IsS93.drewN | apply IsS93.drew | apply IsS93.set_1 | apply IsS93.set_2 | refine IsS93.far ?_ NB0_321.out _ | refine IsS93.far ?_ NB0_328.out _) | exact HI0.out)) hb); clear hb ho25; obtain ⟨Ao27, co27, eo27⟩ := Kd.R_slice HO337.out; subst eo27) | ((with_reducible refine gate_builtin (b := .append) (xs := #[.tmp 16, .tmp 18]) rfl ?_); at_builtin; refine Kd.S_append (Kd.slice 3 (Kd.int .i64)) w.heap.size rfl (.tmp 16) (.tmp 18) 22 31 (.slice none 0 0) 24 rfl Try.underlying22 info31 rfl (by decide) (by omega) (.slice Ao11 t323.length co11) t323 y335 [.slice Ao27 y335.length co27] (fun _ => True) (fun k_ => some k_ = (.slice Ao27 y335.length co27 : Value).ownBlock) rfl rfl ?aP (fun k_ hk_ => ((Zw (ok' := fun k_ => ((fun _ => True)) k_ ∧ some k_ ≠ (.slice Ao11 t323.length co11 : Value).ownBlock) (Kd.R_apart' (HO337.out) (Kd.S_typed HO325.out) (by decide)) (fun k_ hk => ⟨trivial, hk.2⟩))).1 k_ hk_.symm) ?aF ?aO (Below.refl _ _) ?aS ?aL ?_; (case aP => exact Kd.M_row (Zw (Kd.R_tight rfl (Zw (ok' := fun k_ => ((fun _ => True)) k_ ∧ some k_ ≠ (.slice Ao11 t323.length co11 : Value).ownBlock) (Kd.R_apart' (HO337.out) (Kd.S_typed HO325.out) (by decide)) (fun k_ hk => ⟨trivial, hk.2⟩))) (fun _ h_ => h_))); (case aF => exact (fun _ _ => trivial)); (case aO => exact (by (with_reducible repeat (first | apply Zs | apply Zr | apply Zp)); exact Zt HO325.out (fun k_ hk => ⟨trivial, fun e_ => hk.2 e_⟩))); (case aS => exact (keep_size (w := w) (g := g) (row := none) (by repeat (first | (with_reducible first | exact HK.out | apply Zy | apply ZD | apply ZL | apply ZE | refine ZV ?_ GW321.out _ | refine ZV ?_ GW328.out _) | exact HK.out)))); (case aL => have := LMc20.out; omega); intro v339 w26 ho hb hg hat; rw [← Ny338.out] at ho; have n0_ := Aside0.mk (IsS93.grown (by repeat (first | (with_reducible first | exact HI0.out | apply IsS93.alloc | apply IsS93.drewN | apply IsS93.drew | apply IsS93.set_1 | apply IsS93.set_2 | refine IsS93.far ?_ NB0_321.out _ | refine IsS93.far ?_ NB0_328.out _) | exact HI0.out)) hg (IsS93.own_neS HI0.out HO325.out (by decide))); have n1_ := Aside0.mk (ZT (bq_ BK321.out) hg (Kd.S_ne HO325.out BK321.out (by decide))); have n2_ := Aside0.mk (ZT (bq_ BK328.out) hg (Kd.S_ne HO325.out BK328.out (by decide))); have n3_ := Aside0.mk (below_weaken (by repeat (first | (with_reducible first | exact HB.out | apply Zk | apply Zi | apply Zj | refine Zc ?_ (IsS93.ge HI0.out) | refine Zc ?_ GE321.out | refine Zc ?_ GE328.out) | exact HB.out)) HL.out hb); have n4_ := Aside0.mk (KeepBut.trans (by repeat (first | (with_reducible first | exact HK.out | apply Zy | apply ZD | apply ZL | apply ZE | refine ZV ?_ GW321.out _ | refine ZV ?_ GW328.out _) | exact HK.out)) (KeepBut.of_grown hg g) (Kd.S_base2 HO325.out)); have n5_ := Aside0.mk (ho); clear HI0; clear BK321; clear BK328; clear HB; clear HK; clear HO325; clear HO337; have HI0 := n0_; have BK321 := n1_; have BK328 := n2_; have HB := n3_; have HK := n4_; have HO340 := n5_; clear n0_ n1_ n2_ n3_ n4_ n5_; clear ho hb hg hat; obtain ⟨Ao28, co28, eo28⟩ := ZN HO340.out; subst eo28; obtain ⟨hcz29_0, hcz29_1, hfz29_0, hfz29_1⟩ := c2_ BK328.out))
   go_meet
   case rel => exact ⟨_, (t330), (t331), (t322), (y338), (.slice Ao28 y338.length co28), H', ⟨by first | omega | exact Nat.le_refl _⟩, ⟨by (with_reducible repeat (first | apply Zs | apply Zr | apply Zp)); exact Zt (Zq (p := ⟨gb328, 1, none⟩) (Zv HO340.out BK328.out (by decide)) (fun _ hk => hk.2) (.slice Ao28 y338.length co28)) (fun _ hk => trivial)⟩, ⟨by (with_reducible repeat (first | refine Ze ?_ _ | refine Zf ?_ | refine Zd ?_ _)); refine ZG ?_ NB321_328.out _; (with_reducible repeat (first | refine Ze ?_ _ | refine Zf ?_ | refine Zd ?_ _)); exact BK321.out⟩, ⟨by (with_reducible repeat (first | refine Ze ?_ _ | refine Zf ?_ | refine Zd ?_ _)); refine ZB (cs := #[.int .i64 t322, .slice Ao11 t323.length co11]) ?_ 1 _ rfl; (with_reducible repeat (first | refine Ze ?_ _ | refine Zf ?_ | refine Zd ?_ _)); exact BK328.out⟩, ⟨by repeat (first | (with_reducible first | exact HI0.out | apply IsS93.alloc | apply IsS93.drewN | apply IsS93.drew | apply IsS93.set_1 | apply IsS93.set_2 | refine IsS93.far ?_ NB0_321.out _ | refine IsS93.far ?_ NB0_328.out _) | exact HI0.out)⟩, ⟨by repeat (first | (with_reducible first | exact HK.out | apply Zy | apply ZD | apply ZL | apply ZE | refine ZV ?_ GW321.out _ | refine ZV ?_ GW328.out _) | exact HK.out)⟩, ⟨by repeat (first | (with_reducible first | exact HB.out | apply Zk | apply Zi | apply Zj | refine Zc ?_ (IsS93.ge HI0.out) | refine Zc ?_ GE321.out | refine Zc ?_ GE328.out) | exact HB.out)⟩⟩
  rw [if_neg c19] at H
  have c19b0 : (t329 == 1) = false := beq_eq_false_iff_ne.mpr c19
  have c19b1 : (t329 != 1) = true := bne_iff_ne.mpr c19
  by_cases c30 : t329 = 2
  rotate_left
  ·rw [if_neg c30] at H
   have c30b0 : (t329 == 2) = false := beq_eq_false_iff_ne.mpr c30
   have c30b1 : (t329 != 2) = true := bne_iff_ne.mpr c30
   have H' := Aside0.mk H
   clear H
   go_wp2
   go_meet
   case rel => exact ⟨_, (t330), (t331), (t322), (t323), (.slice Ao11 t323.length co11), H', ⟨by first | omega | exact Nat.le_refl _⟩, ⟨rS_ HO325.out⟩, ⟨bk_ BK321.out⟩, ⟨bk_ BK328.out⟩, ⟨by repeat (first | (with_reducible first | exact HI0.out | apply IsS93.alloc | apply IsS93.drewN | apply IsS93.drew | apply IsS93.set_1 | apply IsS93.set_2 | refine IsS93.far ?_ NB0_321.out _ | refine IsS93.far ?_ NB0_328.out _) | exact HI0.out)⟩, ⟨by repeat (first | (with_reducible first | exact HK.out | apply Zy | apply ZD | apply ZL | apply ZE | refine ZV ?_ GW321.out _ | refine ZV ?_ GW328.out _) | exact HK.out)⟩, ⟨by repeat (first | (with_reducible first | exact HB.out | apply Zk | apply Zi | apply Zj | refine Zc ?_ (IsS93.ge HI0.out) | refine Zc ?_ GE321.out | refine Zc ?_ GE328.out) | exact HB.out)⟩⟩
  rw [if_pos c30] at H
  have c30b0 : (t329 == 2) = true := beq_iff_eq.mpr c30
  have c30b1 : (t329 != 2) = false := bne_eq_false_iff_eq.mpr c30
  clear c30
  obtain ⟨⟨t341, t342, t343⟩, A31, H⟩ := bd_ H
  try dsimp only at H
  obtain ⟨⟨t344, t345, t346⟩, A32, H⟩ := bd_ H
  try dsimp only at H
  obtain ⟨y347, hy347⟩ : ∃ y_ : List Int, y_ = (([t341, t344] : List Int)) := ⟨_, rfl⟩
  replace H : (if t323.length < 5864062014805 then (spec_l4Any.j0 k s0_0 t345 t346 t322 (t323 ++ [y347])) else (none)) = some (r1, r2, r3, r4) := hy_ hy347 H
  have Ny347 := Aside0.mk hy347
  clear hy347
  by_cases c33 : t323.length < 5864062014805
  rotate_left
  ·rw [if_neg c33] at H
   exact absurd H (by simp)
  rw [if_pos c33] at H
  have LMc33 := Aside0.mk c33
  clear c33
  obtain ⟨y350, hy350⟩ : ∃ y_ : List (List Int), y_ = (t323 ++ [y347]) := ⟨_, rfl⟩
  replace H : (spec_l4Any.j0 k s0_0 t345 t346 t322 y350) = some (r1, r2, r3, r4) := hy_ hy350 H
  have Ny350 := Aside0.mk hy350
  clear hy350
  have H' := Aside0.mk H
  clear H
  try go_wp2
  replace HO325 := Aside0.mk (Zp HO325.out)
  replace BK321 := Aside0.mk (Zf BK321.out)
  replace BK328 := Aside0.mk (Zf BK328.out)
  replace HI0 := Aside0.mk (IsS93.drew HI0.out)
  replace HK := Aside0.mk (ZL HK.out)
  replace HB := Aside0.mk (Zj HB.out)
  refine start_ (n := 11) (S := fun w' => w'.cell? ⟨gb328, 0, none⟩ = some (.int .i64 t322) ∧ w'.cell? ⟨gb328, 1, none⟩ = some (.slice Ao11 t323.length co11)) (ds := [10]) (m_ 11 0) (by kernel_rfl) rfl rfl ⟨(Za BK328.out 0).trans rfl, (Za BK328.out 1).trans rfl⟩ (fun hHeld => ?_); refine with_tabW spec_l4Any.tab8 spec_l4Any.bits8 (fun HT_ HW_ => ?_)
  generalize w12.drew = w34 at HO325 BK321 BK328 HI0 HK HB hHeld ⊢
  refine pu_ 0 23 (m_ 11 1) ?_
  refine pu_ 2 25 (m_ 11 5) ?_
  refine pu_ 4 27 (m_ 11 21) ?_
  refine tk2_ 1 24 (m_ 11 23) hHeld ?_
  refine on_ 3 26 (m_ 11 31) (fun K hK => ?_)
  refine goes_ Try.func84 (by kernel_rfl) rfl #[.pointer (some ⟨g, 0, none⟩), .int .i64 7] (by rfl) rfl rfl ar_ ?_
  with_reducible refine (spec_l1Below.calls g s0_0 t330 t331 7 t341 t342 t343 w0 _ ?side1 ?side2 A31.out).mono ?_
  (case side1 => repeat (first | (with_reducible first | exact HI0.out | apply IsS93.alloc | apply IsS93.drewN | apply IsS93.drew | apply IsS93.set_1 | apply IsS93.set_2 | refine IsS93.far ?_ NB0_321.out _ | refine IsS93.far ?_ NB0_328.out _) | exact HI0.out))
  (case side2 => repeat (first | (with_reducible first | exact HB.out | apply Zk | apply Zi | apply Zj | refine Zc ?_ (IsS93.ge HI0.out) | refine Zc ?_ GE321.out | refine Zc ?_ GE328.out) | exact HB.out))
  rintro e w35 ⟨rfl, hi, hb, hk⟩
  refine ⟨_, rfl, ?_⟩
  replace BK321 := Aside0.mk (ZR hk (g' := gb321) (o := .cells #[.int .i64 0, .slice none 0 0] 27 (0, 0)) (bk_ BK321.out) NB321_0.out (by simp))
  replace HO325 := Aside0.mk (Zt (Kd.S_keep (IsS93.apartS (show IsS93 w0 _ g s0_0 t330 t331 from by repeat (first | (with_reducible first | exact HI0.out | apply IsS93.alloc | apply IsS93.drewN | apply IsS93.drew | apply IsS93.set_1 | apply IsS93.set_2 | refine IsS93.far ?_ NB0_321.out _ | refine IsS93.far ?_ NB0_328.out _) | exact HI0.out)) (rS_ HO325.out) (by decide)) hk (fun _ h => h.2)) (fun _ h => h.1))
  replace BK328 := Aside0.mk (ZR hk (g' := gb328) (o := .cells #[.int .i64 t322, .slice Ao11 t323.length co11] 27 (0, 0)) (bk_ BK328.out) NB328_0.out (by simp))
  replace HK := Aside0.mk (KeepBut.trans (by repeat (first | (with_reducible first | exact HK.out | apply Zy | apply ZD | apply ZL | apply ZE | refine ZV ?_ GW321.out _ | refine ZV ?_ GW328.out _) | exact HK.out)) hk (.inl rfl))
  replace HB := Aside0.mk (hb)
  replace HI0 := Aside0.mk (hi)
  (try clear hb)
  (try clear hb2)
  (try clear hk)
  (try clear hi)
  refine hK.out _ _ ⟨(Za BK328.out 0).trans rfl, (Za BK328.out 1).trans rfl⟩ (fun hHeld => ?_)
  clear hK K
  refine no_ 26 ?_
  refine on_ 5 28 (m_ 11 63) (fun K hK => ?_)
  refine goes_ Try.func84 (by kernel_rfl) rfl #[.pointer (some ⟨g, 0, none⟩), .int .i64 7] (by rfl) rfl rfl ar_ ?_
  with_reducible refine (spec_l1Below.calls g s0_0 t342 t343 7 t344 t345 t346 w0 _ ?side1 ?side2 A32.out).mono ?_
  (case side1 => repeat (first | (with_reducible first | exact HI0.out | apply IsS93.alloc | apply IsS93.drewN | apply IsS93.drew | apply IsS93.set_1 | apply IsS93.set_2 | refine IsS93.far ?_ NB0_321.out _ | refine IsS93.far ?_ NB0_328.out _) | exact HI0.out))
  (case side2 => repeat (first | (with_reducible first | exact HB.out | apply Zk | apply Zi | apply Zj | refine Zc ?_ (IsS93.ge HI0.out) | refine Zc ?_ GE321.out | refine Zc ?_ GE328.out) | exact HB.out))
  rintro e w36 ⟨rfl, hi, hb, hk⟩
  refine ⟨_, rfl, ?_⟩
  replace BK321 := Aside0.mk (ZR hk (g' := gb321) (o := .cells #[.int .i64 0, .slice none 0 0] 27 (0, 0)) (bk_ BK321.out) NB321_0.out (by simp))
  replace HO325 := Aside0.mk (Zt (Kd.S_keep (IsS93.apartS (show IsS93 w0 _ g s0_0 t342 t343 from by repeat (first | (with_reducible first | exact HI0.out | apply IsS93.alloc | apply IsS93.drewN | apply IsS93.drew | apply IsS93.set_1 | apply IsS93.set_2 | refine IsS93.far ?_ NB0_321.out _ | refine IsS93.far ?_ NB0_328.out _) | exact HI0.out)) (rS_ HO325.out) (by decide)) hk (fun _ h => h.2)) (fun _ h => h.1))
  replace BK328 := Aside0.mk (ZR hk (g' := gb328) (o := .cells #[.int .i64 t322, .slice Ao11 t323.length co11] 27 (0, 0)) (bk_ BK328.out) NB328_0.out (by simp))
  replace HK := Aside0.mk (KeepBut.trans (by repeat (first | (with_reducible first | exact HK.out | apply Zy | apply ZD | apply ZL | apply ZE | refine ZV ?_ GW321.out _ | refine ZV ?_ GW328.out _) | exact HK.out)) hk (.inl rfl))
  replace HB := Aside0.mk (hb)
  replace HI0 := Aside0.mk (hi)
  (try clear hb)
  (try clear hb2)
  (try clear hk)
  (try clear hi)
  refine hK.out _ _ ⟨(Za BK328.out 0).trans rfl, (Za BK328.out 1).trans rfl⟩ (fun hHeld => ?_)
  clear hK K
  refine no_ 28 ?_
  refine on_ 6 29 (m_ 11 127) (fun K hK => ?_)
  refine Kd.R_lit_step (Kd.int .i64) _ 3 ?hg (N := 29) ?hd (xs := ([t341, t344] : List Int)) (inner := [.int .i64 t341, .int .i64 t344]) (ok := fun _ => True) (okp := fun _ => True) ?hr ?hp (fun _ hk => hk) trivial (Below.refl _ _) (Nat.le_refl _) (by simp) ?_; (case hd => rfl); (case hg => rfl); (case hr => first | (go_simp; done) | (go_simp; rfl)); (case hp => exact (Reps.one (show Kd.M (Kd.int .i64) _ _ _ t341 [.int .i64 t341] from rfl) (Reps.one (show Kd.M (Kd.int .i64) _ _ _ t344 [.int .i64 t344] from rfl) (Reps.none _ _))))
  intro v348 w37 ho38 hb hg_ hnew_
  clear hg_ hnew_
  (first | rw [← Ny347.out] at ho38 | (simp only [Int.reduceToNat] at ho38; rw [← Ny347.out] at ho38))
  replace HO325 := Aside0.mk (Kd.S_elder' (rS_ HO325.out) (Kd.R_base ho38) hb)
  have HO349 := Aside0.mk (Kd.R_lower ho38 (keep_size (w := w) (g := g) (row := none) (by repeat (first | (with_reducible first | exact HK.out | apply Zy | apply ZD | apply ZL | apply ZE | refine ZV ?_ GW321.out _ | refine ZV ?_ GW328.out _) | exact HK.out))))
  replace BK321 := Aside0.mk (Zg (bq_ BK321.out) hb)
  replace BK328 := Aside0.mk (Zg (bq_ BK328.out) hb)
  replace HK := Aside0.mk (KeepBut.trans (by repeat (first | (with_reducible first | exact HK.out | apply Zy | apply ZD | apply ZL | apply ZE | refine ZV ?_ GW321.out _ | refine ZV ?_ GW328.out _) | exact HK.out)) (KeepBut.of_below hb g none) (.inl rfl))
  replace HB := Aside0.mk (Zh (by repeat (first | (with_reducible first | exact HB.out | apply Zk | apply Zi | apply Zj | refine Zc ?_ (IsS93.ge HI0.out) | refine Zc ?_ GE321.out | refine Zc ?_ GE328.out) | exact HB.out)) hb)
  replace HI0 := Aside0.mk (IsS93.below (by repeat (first | (with_reducible first | exact HI0.out | apply IsS93.alloc | apply IsS93.drewN | apply IsS93.drew | apply IsS93.set_1 | apply IsS93.set_2 | refine IsS93.far ?_ NB0_321.out _ | refine IsS93.far ?_ NB0_328.out _) | exact HI0.out)) hb)
  clear hb ho38
  obtain ⟨Ao40, co40, eo40⟩ := Kd.R_slice HO349.out
  (first | subst eo40 | (injection eo40 with f1_ f2_ f3_; have f4_ := f1_.symm; have f5_ := f3_.symm; clear f1_ f2_ f3_; subst f4_; subst f5_))
  refine hK.out _ _ ⟨(Za BK328.out 0).trans rfl, (Za BK328.out 1).trans rfl⟩ (fun hHeld => ?_)
  clear hK K
  refine no_ 29 ?_
  refine on_ 7 30 (m_ 11 255) (fun K hK => ?_)
  refine value_ (w1 := ?_) (v := ?_) (by rfl) rfl ?_ ?_
  rotate_left 2
  ·go_simp
   constructor
   ·rfl
   rfl
  refine hK.out _ _ ⟨(Za (Zd BK328.out _) 0).trans rfl, (Za (Zd BK328.out _) 1).trans rfl⟩ (fun hHeld => ?_)
  clear hK K
  refine no_ 30 ?_
  refine on_ 8 31 (m_ 11 511) (fun K hK => ?_)
  refine Kd.S_append_step (Kd.slice 3 (Kd.int .i64)) w.heap.size (by rfl) (.tmp 24) (.tmp 30) 22 31 (.slice none 0 0) 24 rfl Try.underlying22 info31 rfl (by decide) (by omega) (.slice Ao11 t323.length co11) t323 y347 [.slice Ao40 y347.length co40] (fun _ => True) (fun k_ => some k_ = (.slice Ao40 y347.length co40 : Value).ownBlock) rfl rfl ?aP (fun k_ hk_ => ((Zw (ok' := fun k_ => ((fun _ => True)) k_ ∧ some k_ ≠ (.slice Ao11 t323.length co11 : Value).ownBlock) (Kd.R_apart' (HO349.out) (Kd.S_typed HO325.out) (by decide)) (fun k_ hk => ⟨trivial, hk.2⟩))).1 k_ hk_.symm) ?aF ?aO (Below.refl _ _) ?aS ?aL ?_
  (case aP => exact Kd.M_row (Zw (Kd.R_tight rfl (Zw (ok' := fun k_ => ((fun _ => True)) k_ ∧ some k_ ≠ (.slice Ao11 t323.length co11 : Value).ownBlock) (Kd.R_apart' (HO349.out) (Kd.S_typed HO325.out) (by decide)) (fun k_ hk => ⟨trivial, hk.2⟩))) (fun _ h_ => h_)))
  (case aF => exact (fun _ _ => trivial))
  (case aO => exact (by (with_reducible repeat (first | apply Zs | apply Zr | apply Zp)); exact Zt HO325.out (fun k_ hk => ⟨trivial, fun e_ => hk.2 e_⟩)))
  (case aS => exact (keep_size (w := w) (g := g) (row := none) (by repeat (first | (with_reducible first | exact HK.out | apply Zy | apply ZD | apply ZL | apply ZE | refine ZV ?_ GW321.out _ | refine ZV ?_ GW328.out _) | exact HK.out))))
  (case aL => have := LMc33.out; omega)
  intro v351 w39 ho hb hg hat
  rw [← Ny350.out] at ho
  have n0_ := Aside0.mk (IsS93.grown (by repeat (first | (with_reducible first | exact HI0.out | apply IsS93.alloc | apply IsS93.drewN | apply IsS93.drew | apply IsS93.set_1 | apply IsS93.set_2 | refine IsS93.far ?_ NB0_321.out _ | refine IsS93.far ?_ NB0_328.out _) | exact HI0.out)) hg (IsS93.own_neS HI0.out HO325.out (by decide)))
  have n1_ := Aside0.mk (ZT (bq_ BK321.out) hg (Kd.S_ne HO325.out BK321.out (by decide)))
  have n2_ := Aside0.mk (ZT (bq_ BK328.out) hg (Kd.S_ne HO325.out BK328.out (by decide)))
  have n3_ := Aside0.mk (below_weaken (by repeat (first | (with_reducible first | exact HB.out | apply Zk | apply Zi | apply Zj | refine Zc ?_ (IsS93.ge HI0.out) | refine Zc ?_ GE321.out | refine Zc ?_ GE328.out) | exact HB.out)) HL.out hb)
  have n4_ := Aside0.mk (KeepBut.trans (by repeat (first | (with_reducible first | exact HK.out | apply Zy | apply ZD | apply ZL | apply ZE | refine ZV ?_ GW321.out _ | refine ZV ?_ GW328.out _) | exact HK.out)) (KeepBut.of_grown hg g) (Kd.S_base2 HO325.out))
  have n5_ := Aside0.mk (ho)
  clear HI0
  clear BK321
  clear BK328
  clear HB
  clear HK
  clear HO325
  clear HO349
  have HI0 := n0_
  have BK321 := n1_
  have BK328 := n2_
  have HB := n3_
  have HK := n4_
  have HO352 := n5_
  clear n0_ n1_ n2_ n3_ n4_ n5_
  clear ho hb hg hat
  obtain ⟨Ao41, co41, eo41⟩ := ZN HO352.out
  (first | subst eo41 | (injection eo41 with f1_ f2_ f3_; have f4_ := f1_.symm; have f5_ := f3_.symm; clear f1_ f2_ f3_; subst f4_; subst f5_))
  refine hK.out _ _ ⟨(Za BK328.out 0).trans rfl, (Za BK328.out 1).trans rfl⟩ (fun hHeld => ?_)
  clear hK K
  refine no_ 31 ?_
  refine pu_ 9 32 (m_ 11 1023) ?_
  refine last_ (i := 10) (N := none) (m_ 11 2047) rfl rfl (one_of HT_.out (by kernel_rfl)) (by decide) (fun K hK => ?_)
  have hs42 : w39.cell? ⟨gb328, 1, none⟩ = some (.slice Ao11 t323.length co11) := (Za BK328.out 1).trans rfl
  have hfs42 := Zb BK328.out 1
  have hns42_0 := NB321_328.out
  have hms42_0 := NB328_321.out
  refine skip_ (w1 := ?_) (by rfl) rfl ?_ ?_
  rotate_left
  ·go_simp
   rfl
  refine hK.out _ _ ?_
  clear hK K
  refine done_ (done_of HT_.out (by kernel_rfl)) ?_
  try go_wp2
  go_meet
  case rel => exact ⟨_, (t345), (t346), (t322), (y350), (.slice Ao41 y350.length co41), H', ⟨by first | omega | exact Nat.le_refl _⟩, ⟨by (with_reducible repeat (first | apply Zs | apply Zr | apply Zp)); exact Zt (Zq (p := ⟨gb328, 1, none⟩) (Zv HO352.out BK328.out (by decide)) (fun _ hk => hk.2) (.slice Ao41 y350.length co41)) (fun _ hk => trivial)⟩, ⟨by (with_reducible repeat (first | refine Ze ?_ _ | refine Zf ?_ | refine Zd ?_ _)); refine ZG ?_ NB321_328.out _; (with_reducible repeat (first | refine Ze ?_ _ | refine Zf ?_ | refine Zd ?_ _)); exact BK321.out⟩, ⟨by (with_reducible repeat (first | refine Ze ?_ _ | refine Zf ?_ | refine Zd ?_ _)); refine ZB (cs := #[.int .i64 t322, .slice Ao11 t323.length co11]) ?_ 1 _ rfl; (with_reducible repeat (first | refine Ze ?_ _ | refine Zf ?_ | refine Zd ?_ _)); exact BK328.out⟩, ⟨by repeat (first | (with_reducible first | exact HI0.out | apply IsS93.alloc | apply IsS93.drewN | apply IsS93.drew | apply IsS93.set_1 | apply IsS93.set_2 | refine IsS93.far ?_ NB0_321.out _ | refine IsS93.far ?_ NB0_328.out _) | exact HI0.out)⟩, ⟨by repeat (first | (with_reducible first | exact HK.out | apply Zy | apply ZD | apply ZL | apply ZE | refine ZV ?_ GW321.out _ | refine ZV ?_ GW328.out _) | exact HK.out)⟩, ⟨by repeat (first | (with_reducible first | exact HB.out | apply Zk | apply Zi | apply Zj | refine Zc ?_ (IsS93.ge HI0.out) | refine Zc ?_ GE321.out | refine Zc ?_ GE328.out) | exact HB.out)⟩⟩
 case rest =>
  clear HC4
  try clear c1
  try clear c2
  try clear p2
  try clear c3
  try clear c8
  try clear c9
  try clear c12
  try clear c13
  try clear c13b0
  try clear c13b1
  try clear c16
  try clear c17
  try clear c19
  try clear c19b0
  try clear c19b1
  try clear c20
  try clear c21
  try clear c22
  try clear c30
  try clear c30b0
  try clear c30b1
  try clear c33
  try clear hcz10_0
  try clear hcz10_1
  try clear hcz18_0
  try clear hcz18_1
  try clear hcz23_0
  try clear hcz23_1
  try clear hcz29_0
  try clear hcz29_1
  try clear hfz10_0
  try clear hfz10_1
  try clear hfz18_0
  try clear hfz18_1
  try clear hfz23_0
  try clear hfz23_1
  try clear hfz29_0
  try clear hfz29_1
  obtain ⟨kq, x1001_3, x1002_3, x329000_3, x329001_3, u329001, HA, HJ3, HO_329001, BK321, BK328, HI0, HK, HB⟩ := hcut
  cases kq with
  | zero => exact absurd HA.out (by simp [spec_l4Any.j0])
  | succ kj3 =>
   have H := HA.out
   clear HA
   simp only [spec_l4Any.j0] at H
   simp only [Option.some.injEq, Prod.mk.injEq] at H
   obtain ⟨rfl, rfl, rfl, rfl⟩ := H
   have hnb43 := NB328_321.out
   have hnc43 := NB321_328.out
   have hnb44 := NB328_0.out
   have hnc44 := NB0_328.out
   obtain ⟨hcz45_0, hcz45_1, hfz45_0, hfz45_1⟩ := c2_ BK328.out
   have hnb46 := NB321_0.out
   have hnc46 := NB0_321.out
   obtain ⟨hcz47_0, hcz47_1, hfz47_0, hfz47_1⟩ := c2_ BK321.out
   obtain ⟨Ao48, co48, eo48⟩ := ZN HO_329001.out
   subst eo48
   go_wp2
   refine bodyPost_ret (results_cell_row rfl _ _ gb321 27 #[.int .i64 x329000_3, .slice Ao48 x329001_3.length co48] (0, 0) _ rfl (by (with_reducible repeat (first | refine Ze ?_ _ | refine Zf ?_ | refine Zd ?_ _)); refine ZB (cs := #[.int .i64 x329000_3, .slice none 0 0]) ?_ 1 _ rfl; (with_reducible repeat (first | refine Ze ?_ _ | refine Zf ?_ | refine Zd ?_ _)); refine ZB (cs := #[.int .i64 0, .slice none 0 0]) ?_ 0 _ rfl; (with_reducible repeat (first | refine Ze ?_ _ | refine Zf ?_ | refine Zd ?_ _)); exact BK321.out) Try.underlying27 rfl (by kernel_rfl)) rfl ?_
   exact ⟨_, er_, by (with_reducible repeat (first | apply Zs | apply Zr | apply Zp)); exact Zt (Zq (p := ⟨gb321, 1, none⟩) (Zq (p := ⟨gb321, 0, none⟩) (Zv HO_329001.out BK321.out (by decide)) (fun _ hk => hk.2) (.int .i64 x329000_3)) (fun _ hk => hk.2) (.slice Ao48 x329001_3.length co48)) (fun _ hk => trivial), by repeat (first | (with_reducible first | exact HI0.out | apply IsS93.alloc | apply IsS93.drewN | apply IsS93.drew | apply IsS93.set_1 | apply IsS93.set_2 | refine IsS93.far ?_ NB0_321.out _ | refine IsS93.far ?_ NB0_328.out _) | exact HI0.out), by repeat (first | (with_reducible first | exact HB.out | apply Zk | apply Zi | apply Zj | refine Zc ?_ (IsS93.ge HI0.out) | refine Zc ?_ GE321.out | refine Zc ?_ GE328.out) | exact HB.out), by repeat (first | (with_reducible first | exact HK.out | apply Zy | apply ZD | apply ZL | apply ZE | refine ZV ?_ GW321.out _ | refine ZV ?_ GW328.out _) | exact HK.out)⟩

/-! ### spec_Min: function 93 -/
def spec_Min.f (a0 : Int) (a1 : Int) : Option (Int) := if a1 < a0 then (some a1) else (some a0)
theorem spec_Min.calls (a0 : Int) (a1 : Int) (r : Int) (w : World) (h : spec_Min.f a0 a1 = some r) :
  Calls Try.prog 93 #[.int .i64 a0, .int .i64 a1] w fun e w' => e = .returned (.int .i64 r) ∧ Drawn0 w w' := by
 have H := h
 unfold spec_Min.f at H
 clear h
 by_cases c3 : a1 < a0
 ·rw [if_pos c3] at H
  have c3b0 : decide (a1 < a0) = true := decide_eq_true c3
  clear c3
  obtain rfl := Option.some.inj H
  go_enter Try.func93, Try.ntmps93
  go_wp2
  go_ret
  exact ⟨sm_, dr_⟩
 rw [if_neg c3] at H
 have c3b0 : decide (a1 < a0) = false := decide_eq_false c3
 clear c3
 obtain rfl := Option.some.inj H
 go_enter Try.func93, Try.ntmps93
 go_wp2
 go_ret
 exact ⟨sm_, dr_⟩

/-! ### spec_l4Set: function 100 -/
def spec_l4Set.l0 : Nat → List Int → Int → List Int → Int → Int → Int → List (List Int) → Option (List Int × Int × Int)
 | 0, _, _, _, _, _, _, _ => none
 | k + 1, x5, x6, x1000, x1001, x1002, x354000, x354001 => (spec_Min.f 12 x354000).bind fun t357 => (if x6 < t357 then ((spec_l1Once.f x1000 x1001 x1002 3).bind fun bt358 => (if bt358.1 = true then (if x5.length < 17592186044416 then (spec_l4Set.l0 k (x5 ++ [x6]) (wrap64 (x6 + 1)) x1000 bt358.2.1 bt358.2.2 x354000 x354001) else (none)) else (spec_l4Set.l0 k x5 (wrap64 (x6 + 1)) x1000 bt358.2.1 bt358.2.2 x354000 x354001))) else (some (x5, x1001, x1002)))
def spec_l4Set.f (k : Nat) (s0_0 : List Int) (s0_1 : Int) (s0_2 : Int) (a1_0 : Int) (l1_1 : List (List Int)) : Option (List Int × Int × Int) := spec_l4Set.l0 k (([] : List Int)) 0 s0_0 s0_1 s0_2 a1_0 l1_1
theorem spec_l4Set.mono_l : ∀ k, (∀ y0 y1 y2 y3 y4 y5 y6, LeO (spec_l4Set.l0 k y0 y1 y2 y3 y4 y5 y6) (spec_l4Set.l0 (k + 1) y0 y1 y2 y3 y4 y5 y6))
 | 0 => fun _ _ _ _ _ _ _ r h => by simp [spec_l4Set.l0] at h
 | k + 1 => by
  have ih0 := spec_l4Set.mono_l k
  ·intro y0 y1 y2 y3 y4 y5 y6
   unfold spec_l4Set.l0
   repeat' with_reducible first | apply ih0 | apply ZJ | apply Zn | refine Zu ?_ ?_ | refine Zo ?_ (fun _ => ?_)
theorem spec_l4Set.mono : ∀ a0 a1 a2 a3 a4 k, LeO (spec_l4Set.f k a0 a1 a2 a3 a4) (spec_l4Set.f (k + 1) a0 a1 a2 a3 a4) := by
 intro a0 a1 a2 a3 a4 k
 have ih0 := spec_l4Set.mono_l k
 unfold spec_l4Set.f
 repeat' with_reducible first | apply ih0 | apply ZJ | apply Zn | refine Zu ?_ ?_ | refine Zo ?_ (fun _ => ?_)
theorem spec_l4Set.calls (k : Nat) (g : Nat) (s0_0 : List Int) (s0_1 : Int) (s0_2 : Int) (a1_0 : Int) (A1_1 : Option Addr) (c1_1 : Nat) (l1_1 : List (List Int)) (r1 : List Int) (r2 : Int) (r3 : Int) (w0 w : World) (hI : IsS93 w0 w g s0_0 s0_1 s0_2) (hB : Below w0.heap.size w0 w) (hr1_1 : ∀ W_, KeepBut w W_ g none → Kd.C (Kd.slice 3 (Kd.int .i64)) W_ A1_1 l1_1.length l1_1) (hc1_1 : l1_1.length ≤ c1_1) (h : spec_l4Set.f k s0_0 s0_1 s0_2 a1_0 l1_1 = some (r1, r2, r3)) :
  Calls Try.prog 100 #[.pointer (some ⟨g, 0, none⟩), .agg #[.int .i64 a1_0, .slice A1_1 l1_1.length c1_1]] w fun e w' => ∃ v0_ : Value, e = .returned (v0_) ∧ Kd.R (Kd.int .i64) 3 w' w.heap.size (fun _ => True) v0_ r1 ∧ IsS93 w0 w' g s0_0 r2 r3 ∧ Below w0.heap.size w0 w' ∧ KeepBut w w' g none := by
 have hu27 := Try.underlying27
 have HR1_1 := Aside0.mk hr1_1
 have HC1_1 := Aside0.mk hc1_1
 clear hr1_1 hc1_1
 have HI0 := Aside0.mk hI
 have HK := Aside0.mk (KeepBut.refl w g none)
 have HL := Aside0.mk hB.size
 clear hI
 have HW0 := Aside0.mk hB.size
 have HB := Aside0.mk hB
 clear hB
 have H := h
 unfold spec_l4Set.f at H
 clear h
 obtain ⟨y354, hy354⟩ : ∃ y_ : List Int, y_ = (([] : List Int)) := ⟨_, rfl⟩
 replace H : (spec_l4Set.l0 k y354 0 s0_0 s0_1 s0_2 a1_0 l1_1) = some (r1, r2, r3) := hy_ hy354 H
 have Ny354 := Aside0.mk hy354
 clear hy354
 have H' := Aside0.mk H
 clear H
 go_enter Try.func100, Try.ntmps100
 go_wp2_with (first | ((with_reducible refine ZA (N := 3) rfl ?_); refine ZC ?hg (N := 3) ?hd (cs := #[.int .i64 a1_0, .slice A1_1 l1_1.length c1_1]) (t := 27) ?hr ?_; (case hd => rfl); (case hg => rfl); (case hr => first | (go_simp; done) | (go_simp; rfl)); intro gb353 hg w3 hbox hb; replace HB := Aside0.mk (Zh (by repeat (first | (with_reducible first | exact HB.out | apply Zk | apply Zi | apply Zj | refine Zc ?_ (IsS93.ge HI0.out)) | exact HB.out)) hb); have BK353 := Aside0.mk (hbox); have GW353 := Aside0.mk ((by rw [hg]; exact (keep_size (w := w) (g := g) (row := none) (qA_ HK.out)) : w.heap.size ≤ gb353)); have GE353 := Aside0.mk ((Nat.le_trans HW0.out (by rw [hg]; exact (keep_size (w := w) (g := g) (row := none) (qA_ HK.out)) : w.heap.size ≤ gb353) : w0.heap.size ≤ gb353)); replace HK := Aside0.mk (KeepBut.trans (qA_ HK.out) (KeepBut.of_below hb g none) (.inl rfl)); have NB0_353 := Aside0.mk ((by rw [hg]; exact Nat.ne_of_lt (IsS93.lt (show IsS93 w0 _ g s0_0 s0_1 s0_2 from by exact qB_ HI0.out)) : g ≠ gb353)); have NB353_0 := Aside0.mk ((by rw [hg]; exact Nat.ne_of_gt (IsS93.lt (show IsS93 w0 _ g s0_0 s0_1 s0_2 from by exact qB_ HI0.out)) : gb353 ≠ g)); replace HI0 := Aside0.mk (IsS93.below (qB_ HI0.out) hb); clear hb hbox hg) | ((with_reducible refine ZA (N := 7) rfl ?_); refine Kd.R_lit (Kd.int .i64) _ 3 ?hg (N := 7) ?hd (xs := ([] : List Int)) (inner := []) (ok := fun _ => True) (okp := fun _ => True) ?hr ?hp (fun _ hk => hk) trivial (Below.refl _ _) (Nat.le_refl _) (by simp) ?_; (case hd => rfl); (case hg => rfl); (case hr => first | (go_simp; done) | (go_simp; rfl)); (case hp => exact (Reps.none _ _)); intro v355 w4 ho5 hb hg_ hnew_; clear hg_ hnew_; (first | rw [← Ny354.out] at ho5 | (simp only [Int.reduceToNat] at ho5; rw [← Ny354.out] at ho5)); have HO356 := Aside0.mk (Kd.R_lower ho5 (keep_size (w := w) (g := g) (row := none) (by repeat (first | (with_reducible first | exact HK.out | apply Zy | apply ZD | apply ZL | apply ZE | refine ZV ?_ GW353.out _) | exact HK.out)))); replace BK353 := Aside0.mk (Zg (bq_ BK353.out) hb); replace HK := Aside0.mk (KeepBut.trans (by repeat (first | (with_reducible first | exact HK.out | apply Zy | apply ZD | apply ZL | apply ZE | refine ZV ?_ GW353.out _) | exact HK.out)) (KeepBut.of_below hb g none) (.inl rfl)); replace HB := Aside0.mk (Zh (by repeat (first | (with_reducible first | exact HB.out | apply Zk | apply Zi | apply Zj | refine Zc ?_ (IsS93.ge HI0.out) | refine Zc ?_ GE353.out) | exact HB.out)) hb); replace HI0 := Aside0.mk (IsS93.below (by repeat (first | (with_reducible first | exact HI0.out | apply IsS93.alloc | apply IsS93.drewN | apply IsS93.drew | apply IsS93.set_1 | apply IsS93.set_2 | refine IsS93.far ?_ NB0_353.out _) | exact HI0.out)) hb); clear hb ho5))
 go_loopg [5, 6] k (fun kq v5 v6 w' => ∃ (x5_1 : List Int) (x6_1 : Int) (x1001_1 : Int) (x1002_1 : Int), v6 = .int .i64 x6_1 ∧ Aside0 (spec_l4Set.l0 kq x5_1 x6_1 s0_0 x1001_1 x1002_1 a1_0 l1_1 = some (r1, r2, r3)) ∧ Aside0 (kq ≤ k) ∧ Aside0 (Kd.R (Kd.int .i64) 3 w' w.heap.size (fun _ => True) v5 x5_1) ∧ Aside0 (w'.heap[gb353]? = some (.cells #[.int .i64 a1_0, (.slice A1_1 l1_1.length c1_1)] 27 (0, 0))) ∧ Aside0 (IsS93 w0 w' g s0_0 x1001_1 x1002_1) ∧ Aside0 (KeepBut w w' g none) ∧ Aside0 (Below w0.heap.size w0 w'))
 case atStart => exact ⟨(y354), (0), (s0_1), (s0_2), sm_, H', ⟨Nat.le_refl _⟩, ⟨rR_ HO356.out⟩, ⟨bk_ BK353.out⟩, ⟨by repeat (first | (with_reducible first | exact HI0.out | apply IsS93.alloc | apply IsS93.drewN | apply IsS93.drew | apply IsS93.set_1 | apply IsS93.set_2 | refine IsS93.far ?_ NB0_353.out _) | exact HI0.out)⟩, ⟨by repeat (first | (with_reducible first | exact HK.out | apply Zy | apply ZD | apply ZL | apply ZE | refine ZV ?_ GW353.out _) | exact HK.out)⟩, ⟨by repeat (first | (with_reducible first | exact HB.out | apply Zk | apply Zi | apply Zj | refine Zc ?_ (IsS93.ge HI0.out) | refine Zc ?_ GE353.out) | exact HB.out)⟩⟩
 case round =>
  clear H'
  try clear c1
  try clear p2
  obtain ⟨x5_1, x6_1, x1001_1, x1002_1, rfl, HA, HK1, HO_5, BK353, HI0, HK, HB⟩ := hrel
  cases gk with
  | zero => exact absurd HA.out (by simp [spec_l4Set.l0])
  | succ k1 =>
   have H := HA.out
   clear HA
   simp only [spec_l4Set.l0] at H
   obtain ⟨t357, A6, H⟩ := bd_ H
   try dsimp only at H
   by_cases c7 : x6_1 < t357
   rotate_left
   ·rw [if_neg c7] at H
    have c7b0 : decide (x6_1 < t357) = false := decide_eq_false c7
    clear c7
    simp only [Option.some.injEq, Prod.mk.injEq] at H
    obtain ⟨rfl, rfl, rfl⟩ := H
    have hnb18 := NB353_0.out
    have hnc18 := NB0_353.out
    obtain ⟨hcz19_0, hcz19_1, hfz19_0, hfz19_1⟩ := c2_ BK353.out
    (try clear BK353)
    go_wp2_with (first | ((with_reducible refine Zl (f := 93) rfl ?_); refine ZI (some 11) rfl rfl Try.func93 (by kernel_rfl) rfl #[.int .i64 12, .int .i64 a1_0] rfl ar_ ?_; (with_reducible refine (spec_Min.calls 12 a1_0 t357 _ A6.out).mono ?_); rintro e w' ⟨rfl, ⟨nd, rfl⟩⟩; refine ⟨_, rfl, ?_⟩))
    go_ret
    exact ⟨_, er_, rR_ HO_5.out, by exact qB_ HI0.out, by repeat (first | (with_reducible first | exact HB.out | apply Zk | apply Zi | apply Zj | refine Zc ?_ (IsS93.ge HI0.out)) | exact HB.out), by exact qA_ HK.out⟩
   rw [if_pos c7] at H
   have c7b0 : decide (x6_1 < t357) = true := decide_eq_true c7
   clear c7
   obtain ⟨⟨t358, t359, t360⟩, A8, H⟩ := bd_ H
   try dsimp only at H
   by_cases c9 : t358 = true
   rotate_left
   ·replace c9 := Bool.eq_false_iff.mpr c9
    subst c9
    have H1 : (spec_l4Set.l0 k1 x5_1 (wrap64 (x6_1 + 1)) s0_0 t359 t360 a1_0 l1_1) = some (r1, r2, r3) := by rw [if_neg (show ¬ (false = true) by decide)] at H; exact H
    clear H
    have H := H1
    clear H1
    have H' := Aside0.mk H
    clear H
    have hnb15 := NB353_0.out
    have hnc15 := NB0_353.out
    obtain ⟨hcz16_0, hcz16_1, hfz16_0, hfz16_1⟩ := c2_ BK353.out
    go_wp2_with (first | ((with_reducible refine Zl (f := 93) rfl ?_); refine ZI (some 11) rfl rfl Try.func93 (by kernel_rfl) rfl #[.int .i64 12, .int .i64 a1_0] rfl ar_ ?_; (with_reducible refine (spec_Min.calls 12 a1_0 t357 _ A6.out).mono ?_); rintro e w' ⟨rfl, ⟨nd, rfl⟩⟩; refine ⟨_, rfl, ?_⟩) | ((with_reducible refine Zl (f := 97) rfl ?_); refine ZI (some 16) rfl rfl Try.func97 (by kernel_rfl) rfl #[.pointer (some ⟨g, 0, none⟩), .int .i64 3] rfl ar_ ?_; (with_reducible refine (spec_l1Once.calls g s0_0 x1001_1 x1002_1 3 false t359 t360 w0 _ ?side1 ?side2 A8.out).mono ?_); (case side1 => repeat (first | (with_reducible first | exact HI0.out | apply IsS93.alloc | apply IsS93.drewN | apply IsS93.drew | apply IsS93.set_1 | apply IsS93.set_2 | refine IsS93.far ?_ NB0_353.out _) | exact HI0.out)); (case side2 => repeat (first | (with_reducible first | exact HB.out | apply Zk | apply Zi | apply Zj | refine Zc ?_ (IsS93.ge HI0.out) | refine Zc ?_ GE353.out) | exact HB.out)); rintro e w17 ⟨rfl, hi, hb, hk⟩; refine ⟨_, rfl, ?_⟩; replace HO_5 := Aside0.mk (Zw (Kd.R_keep (IsS93.apart (show IsS93 w0 _ g s0_0 x1001_1 x1002_1 from by repeat (first | (with_reducible first | exact HI0.out | apply IsS93.alloc | apply IsS93.drewN | apply IsS93.drew | apply IsS93.set_1 | apply IsS93.set_2 | refine IsS93.far ?_ NB0_353.out _) | exact HI0.out)) (rR_ HO_5.out) (by decide)) hk (fun _ h => h.2)) (fun _ h => h.1)); replace BK353 := Aside0.mk (ZR hk (g' := gb353) (o := .cells #[.int .i64 a1_0, .slice A1_1 l1_1.length c1_1] 27 (0, 0)) (bk_ BK353.out) NB353_0.out (by simp)); replace HK := Aside0.mk (KeepBut.trans (by repeat (first | (with_reducible first | exact HK.out | apply Zy | apply ZD | apply ZL | apply ZE | refine ZV ?_ GW353.out _) | exact HK.out)) hk (.inl rfl)); replace HB := Aside0.mk (hb); replace HI0 := Aside0.mk (hi); (try clear hb); (try clear hk); (try clear hi)))
    go_roundg k1
    case measure => have := HK1.out; omega
    case rel => exact ⟨(x5_1), (wrap64 (x6_1 + 1)), (t359), (t360), sm_, H', ⟨by have := HK1.out; omega⟩, ⟨rR_ HO_5.out⟩, ⟨bk_ BK353.out⟩, ⟨by repeat (first | (with_reducible first | exact HI0.out | apply IsS93.alloc | apply IsS93.drewN | apply IsS93.drew | apply IsS93.set_1 | apply IsS93.set_2 | refine IsS93.far ?_ NB0_353.out _) | exact HI0.out)⟩, ⟨by repeat (first | (with_reducible first | exact HK.out | apply Zy | apply ZD | apply ZL | apply ZE | refine ZV ?_ GW353.out _) | exact HK.out)⟩, ⟨by repeat (first | (with_reducible first | exact HB.out | apply Zk | apply Zi | apply Zj | refine Zc ?_ (IsS93.ge HI0.out) | refine Zc ?_ GE353.out) | exact HB.out)⟩⟩
   subst c9
   have H1 : (if x5_1.length < 17592186044416 then (spec_l4Set.l0 k1 (x5_1 ++ [x6_1]) (wrap64 (x6_1 + 1)) s0_0 t359 t360 a1_0 l1_1) else (none)) = some (r1, r2, r3) := by rw [if_pos rfl] at H; exact H
   clear H
   have H := H1
   clear H1
   by_cases c10 : x5_1.length < 17592186044416
   rotate_left
   ·rw [if_neg c10] at H
    exact absurd H (by simp)
   rw [if_pos c10] at H
   have LMc10 := Aside0.mk c10
   clear c10
   obtain ⟨y361, hy361⟩ : ∃ y_ : List Int, y_ = (x5_1 ++ [x6_1]) := ⟨_, rfl⟩
   replace H : (spec_l4Set.l0 k1 y361 (wrap64 (x6_1 + 1)) s0_0 t359 t360 a1_0 l1_1) = some (r1, r2, r3) := hy_ hy361 H
   have Ny361 := Aside0.mk hy361
   clear hy361
   have H' := Aside0.mk H
   clear H
   have hnb11 := NB353_0.out
   have hnc11 := NB0_353.out
   obtain ⟨hcz12_0, hcz12_1, hfz12_0, hfz12_1⟩ := c2_ BK353.out
   go_wp2_with (first | ((with_reducible refine Zl (f := 93) rfl ?_); refine ZI (some 11) rfl rfl Try.func93 (by kernel_rfl) rfl #[.int .i64 12, .int .i64 a1_0] rfl ar_ ?_; (with_reducible refine (spec_Min.calls 12 a1_0 t357 _ A6.out).mono ?_); rintro e w' ⟨rfl, ⟨nd, rfl⟩⟩; refine ⟨_, rfl, ?_⟩) | ((with_reducible refine Zl (f := 97) rfl ?_); refine ZI (some 16) rfl rfl Try.func97 (by kernel_rfl) rfl #[.pointer (some ⟨g, 0, none⟩), .int .i64 3] rfl ar_ ?_; (with_reducible refine (spec_l1Once.calls g s0_0 x1001_1 x1002_1 3 true t359 t360 w0 _ ?side1 ?side2 A8.out).mono ?_); (case side1 => repeat (first | (with_reducible first | exact HI0.out | apply IsS93.alloc | apply IsS93.drewN | apply IsS93.drew | apply IsS93.set_1 | apply IsS93.set_2 | refine IsS93.far ?_ NB0_353.out _) | exact HI0.out)); (case side2 => repeat (first | (with_reducible first | exact HB.out | apply Zk | apply Zi | apply Zj | refine Zc ?_ (IsS93.ge HI0.out) | refine Zc ?_ GE353.out) | exact HB.out)); rintro e w13 ⟨rfl, hi, hb, hk⟩; refine ⟨_, rfl, ?_⟩; replace HO_5 := Aside0.mk (Zw (Kd.R_keep (IsS93.apart (show IsS93 w0 _ g s0_0 x1001_1 x1002_1 from by repeat (first | (with_reducible first | exact HI0.out | apply IsS93.alloc | apply IsS93.drewN | apply IsS93.drew | apply IsS93.set_1 | apply IsS93.set_2 | refine IsS93.far ?_ NB0_353.out _) | exact HI0.out)) (rR_ HO_5.out) (by decide)) hk (fun _ h => h.2)) (fun _ h => h.1)); replace BK353 := Aside0.mk (ZR hk (g' := gb353) (o := .cells #[.int .i64 a1_0, .slice A1_1 l1_1.length c1_1] 27 (0, 0)) (bk_ BK353.out) NB353_0.out (by simp)); replace HK := Aside0.mk (KeepBut.trans (by repeat (first | (with_reducible first | exact HK.out | apply Zy | apply ZD | apply ZL | apply ZE | refine ZV ?_ GW353.out _) | exact HK.out)) hk (.inl rfl)); replace HB := Aside0.mk (hb); replace HI0 := Aside0.mk (hi); (try clear hb); (try clear hk); (try clear hi)) | ((with_reducible refine gate_builtin (b := .append) (xs := #[.tmp 17, .tmp 19]) rfl ?_); at_builtin; refine Kd.R_append (Kd.int .i64) w.heap.size rfl (.tmp 17) (.tmp 19) 31 3 (.int .i64 0) 8 rfl Try.underlying31 info3 rfl (by decide) (by omega) u5 x5_1 x6_1 [.int .i64 x6_1] (fun _ => True) (fun _ => False) rfl rfl ?aP (fun _ hk => hk.elim) ?aF ?aO (Below.refl _ _) ?aS ?aL ?_; (case aP => exact rfl); (case aF => exact (fun _ _ => trivial)); (case aO => exact (rR_ HO_5.out)); (case aS => exact (keep_size (w := w) (g := g) (row := none) (by repeat (first | (with_reducible first | exact HK.out | apply Zy | apply ZD | apply ZL | apply ZE | refine ZV ?_ GW353.out _) | exact HK.out)))); (case aL => have := LMc10.out; omega); intro v362 w14 ho hb hg hat; rw [← Ny361.out] at ho; have n0_ := Aside0.mk (ZT (bq_ BK353.out) hg (Kd.R_ne HO_5.out BK353.out (by decide))); have n1_ := Aside0.mk (IsS93.grown (by repeat (first | (with_reducible first | exact HI0.out | apply IsS93.alloc | apply IsS93.drewN | apply IsS93.drew | apply IsS93.set_1 | apply IsS93.set_2 | refine IsS93.far ?_ NB0_353.out _) | exact HI0.out)) hg (IsS93.own_ne HI0.out HO_5.out (by decide))); have n2_ := Aside0.mk (below_weaken (by repeat (first | (with_reducible first | exact HB.out | apply Zk | apply Zi | apply Zj | refine Zc ?_ (IsS93.ge HI0.out) | refine Zc ?_ GE353.out) | exact HB.out)) HL.out hb); have n3_ := Aside0.mk (KeepBut.trans (by repeat (first | (with_reducible first | exact HK.out | apply Zy | apply ZD | apply ZL | apply ZE | refine ZV ?_ GW353.out _) | exact HK.out)) (KeepBut.of_grown hg g) (Kd.R_base2 HO_5.out)); have n4_ := Aside0.mk (ho); clear BK353; clear HI0; clear HB; clear HK; clear HO_5; have BK353 := n0_; have HI0 := n1_; have HB := n2_; have HK := n3_; have HO363 := n4_; clear n0_ n1_ n2_ n3_ n4_; clear ho hb hg hat))
   go_roundg k1
   case measure => have := HK1.out; omega
   case rel => exact ⟨(y361), (wrap64 (x6_1 + 1)), (t359), (t360), sm_, H', ⟨by have := HK1.out; omega⟩, ⟨rR_ HO363.out⟩, ⟨bk_ BK353.out⟩, ⟨by repeat (first | (with_reducible first | exact HI0.out | apply IsS93.alloc | apply IsS93.drewN | apply IsS93.drew | apply IsS93.set_1 | apply IsS93.set_2 | refine IsS93.far ?_ NB0_353.out _) | exact HI0.out)⟩, ⟨by repeat (first | (with_reducible first | exact HK.out | apply Zy | apply ZD | apply ZL | apply ZE | refine ZV ?_ GW353.out _) | exact HK.out)⟩, ⟨by repeat (first | (with_reducible first | exact HB.out | apply Zk | apply Zi | apply Zj | refine Zc ?_ (IsS93.ge HI0.out) | refine Zc ?_ GE353.out) | exact HB.out)⟩⟩

/-! ### spec_DrawHitBy: function 119 -/
def spec_DrawHitBy.f (k : Nat) (l0 : List Int) : Option (Int × (List (List Int)) × List Int) := (spec_l1New.f k l0).bind fun bt365 => ((spec_l4Any.f k bt365.1 bt365.2.1 bt365.2.2).bind fun bt369 => ((spec_l4Set.f k bt365.1 bt369.2.2.1 bt369.2.2.2 bt369.1 bt369.2.1).bind fun bt376 => (some (bt369.1, bt369.2.1, bt376.1))))
theorem spec_DrawHitBy.mono : ∀ a0 k, LeO (spec_DrawHitBy.f k a0) (spec_DrawHitBy.f (k + 1) a0) := by
 intro a0 k
 unfold spec_DrawHitBy.f
 repeat' with_reducible first | apply spec_l1New.mono | apply spec_l4Any.mono | apply spec_l4Set.mono | apply ZJ | apply Zn | refine Zu ?_ ?_ | refine Zo ?_ (fun _ => ?_)
theorem spec_DrawHitBy.calls (k : Nat) (A0 : Option Addr) (c0 : Nat) (l0 : List Int) (r1 : Int) (r2 : List (List Int)) (r3 : List Int) (w : World) (hr0 : Kd.C (Kd.int .u8) w A0 l0.length l0) (hc0 : l0.length ≤ c0) (h : spec_DrawHitBy.f k l0 = some (r1, r2, r3)) :
  Calls Try.prog 119 #[.slice A0 l0.length c0] w fun e w' => ∃ v1_ v2_ : Value, e = .returned (.tuple #[.agg #[.int .i64 r1, v1_], v2_]) ∧ Kd.S (Kd.slice 3 (Kd.int .i64)) 31 w' w.heap.size (fun k_ => some k_ ≠ (v2_ : Value).ownBlock) v1_ r2 ∧ Kd.R (Kd.int .i64) 3 w' w.heap.size (fun _ => True) v2_ r3 ∧ Below w.heap.size w w' := by
 have hu27 := Try.underlying27
 have HR0 := Aside0.mk hr0
 have HC0 := Aside0.mk hc0
 clear hr0 hc0
 have HB := Aside0.mk (Below.refl w.heap.size w)
 have H := h
 unfold spec_DrawHitBy.f at H
 clear h
 obtain ⟨⟨t365, t366, t367⟩, A2, H⟩ := bd_ H
 try dsimp only at H
 obtain ⟨⟨t369, t370, t373, t374⟩, A3, H⟩ := bd_ H
 try dsimp only at H
 obtain ⟨⟨t376, t379, t380⟩, A4, H⟩ := bd_ H
 try dsimp only at H
 simp only [Option.some.injEq, Prod.mk.injEq] at H
 obtain ⟨rfl, rfl, rfl⟩ := H
 go_enter Try.func119, Try.ntmps119
 try go_wp2_with (first | ((with_reducible refine ZA (N := 2) rfl ?_); refine ZC ?hg (N := 2) ?hd (cs := #[.int .i64 0, .slice none 0 0]) (t := 27) ?hr ?_; (case hd => rfl); (case hg => rfl); (case hr => first | (go_simp; done) | (go_simp; rfl)); intro gb364 hg w5 hbox hb; have BK364 := Aside0.mk (hbox); have GW364 := Aside0.mk ((hz_ hg : w.heap.size ≤ gb364)); have GE364 := Aside0.mk ((hz_ hg : w.heap.size ≤ gb364)); replace HB := Aside0.mk (Zh hB_ hb); clear hb hbox hg) | ((with_reducible refine Zl (f := 82) rfl ?_); refine ZI (some 7) rfl rfl Try.func82 (by kernel_rfl) rfl #[.slice A0 l0.length c0] rfl ar_ ?_; (with_reducible refine (spec_l1New.calls k _ _ l0 t365 t366 t367 w _ ?side1 ?side2 ?side3 A2.out).mono ?_); (case side1 => repeat (first | (with_reducible first | exact HB.out | apply Zk | apply Zi | apply Zj | refine Zc ?_ GE364.out) | exact HB.out)); (case side2 => exact HR0.out); (case side3 => exact HC0.out); rintro e w6 ⟨g368, rfl, hi, hb, hb2⟩; refine ⟨_, rfl, ?_⟩; replace HB := Aside0.mk (hb); have HI368 := Aside0.mk (hi); have NB368_364 := Aside0.mk (IsS93.ne_blk hi (Zg (bq_ BK364.out) hb2) (by decide)); have NB364_368 := Aside0.mk (Ne.symm (IsS93.ne_blk hi (Zg (bq_ BK364.out) hb2) (by decide))); replace BK364 := Aside0.mk (Zg (bq_ BK364.out) hb2); (try clear hb); (try clear hb2); (try clear hk); (try clear hi)) | ((with_reducible refine Zl (f := 96) rfl ?_); refine ZI (some 9) rfl rfl Try.func96 (by kernel_rfl) rfl #[.pointer (some ⟨g368, 0, none⟩)] rfl ar_ ?_; (with_reducible refine (spec_l4Any.calls k g368 t365 t366 t367 t369 t370 t373 t374 w _ ?side1 ?side2 A3.out).mono ?_); (case side1 => repeat (first | (with_reducible first | exact HI368.out | apply IsS93.alloc | apply IsS93.drewN | apply IsS93.drew | apply IsS93.set_1 | apply IsS93.set_2 | refine IsS93.far ?_ NB368_364.out _) | exact HI368.out)); (case side2 => repeat (first | (with_reducible first | exact HB.out | apply Zk | apply Zi | apply Zj | refine Zc ?_ (IsS93.ge HI368.out) | refine Zc ?_ GE364.out) | exact HB.out)); rintro e w7 ⟨v371, rfl, ho0, hi, hb, hk⟩; refine ⟨_, rfl, ?_⟩; replace BK364 := Aside0.mk (ZR hk (g' := gb364) (o := .cells #[.int .i64 0, .slice none 0 0] 27 (0, 0)) (bk_ BK364.out) NB364_368.out (by simp)); have HO372 := Aside0.mk (Kd.S_lower ho0 (Zm (by repeat (first | (with_reducible first | exact HB.out | apply Zk | apply Zi | apply Zj | refine Zc ?_ (IsS93.ge HI368.out) | refine Zc ?_ GE364.out) | exact HB.out)))); replace HB := Aside0.mk (hb); replace HI368 := Aside0.mk (hi); (try clear hb); (try clear hb2); (try clear hk); (try clear hi); (try clear ho0)) | ((with_reducible refine ZA (N := 5) rfl ?_); refine ZC ?hg (N := 5) ?hd (cs := #[.int .i64 0, .slice none 0 0]) (t := 27) ?hr ?_; (case hd => rfl); (case hg => rfl); (case hr => first | (go_simp; done) | (go_simp; rfl)); intro gb375 hg w8 hbox hb; replace HO372 := Aside0.mk (Zz (rS_ HO372.out) hb); have BK375 := Aside0.mk (hbox); have GW375 := Aside0.mk ((by rw [hg]; exact (Zm (by repeat (first | (with_reducible first | exact HB.out | apply Zk | apply Zi | apply Zj | refine Zc ?_ (IsS93.ge HI368.out) | refine Zc ?_ GE364.out) | exact HB.out))) : w.heap.size ≤ gb375)); have GE375 := Aside0.mk ((by rw [hg]; exact (Zm (by repeat (first | (with_reducible first | exact HB.out | apply Zk | apply Zi | apply Zj | refine Zc ?_ (IsS93.ge HI368.out) | refine Zc ?_ GE364.out) | exact HB.out))) : w.heap.size ≤ gb375)); replace HB := Aside0.mk (Zh (by repeat (first | (with_reducible first | exact HB.out | apply Zk | apply Zi | apply Zj | refine Zc ?_ (IsS93.ge HI368.out) | refine Zc ?_ GE364.out) | exact HB.out)) hb); have NB364_375 := Aside0.mk ((by rw [hg]; exact Nat.ne_of_lt (ZS (bq_ BK364.out)) : gb364 ≠ gb375)); have NB375_364 := Aside0.mk ((by rw [hg]; exact Nat.ne_of_gt (ZS (bq_ BK364.out)) : gb375 ≠ gb364)); replace BK364 := Aside0.mk (Zg (bq_ BK364.out) hb); have NB368_375 := Aside0.mk ((by rw [hg]; exact Nat.ne_of_lt (IsS93.lt (show IsS93 w _ g368 t365 t373 t374 from by repeat (first | (with_reducible first | exact HI368.out | apply IsS93.alloc | apply IsS93.drewN | apply IsS93.drew | apply IsS93.set_1 | apply IsS93.set_2 | refine IsS93.far ?_ NB368_364.out _) | exact HI368.out))) : g368 ≠ gb375)); have NB375_368 := Aside0.mk ((by rw [hg]; exact Nat.ne_of_gt (IsS93.lt (show IsS93 w _ g368 t365 t373 t374 from by repeat (first | (with_reducible first | exact HI368.out | apply IsS93.alloc | apply IsS93.drewN | apply IsS93.drew | apply IsS93.set_1 | apply IsS93.set_2 | refine IsS93.far ?_ NB368_364.out _) | exact HI368.out))) : gb375 ≠ g368)); replace HI368 := Aside0.mk (IsS93.below (by repeat (first | (with_reducible first | exact HI368.out | apply IsS93.alloc | apply IsS93.drewN | apply IsS93.drew | apply IsS93.set_1 | apply IsS93.set_2 | refine IsS93.far ?_ NB368_364.out _) | exact HI368.out)) hb); clear hb hbox hg; have hnb9 := NB375_364.out; have hnc9 := NB364_375.out; have hnb10 := NB375_368.out; have hnc10 := NB368_375.out; obtain ⟨hcz11_0, hcz11_1, hfz11_0, hfz11_1⟩ := c2_ BK375.out; obtain ⟨Ao12, co12, eo12⟩ := ZN HO372.out; subst eo12))
 have n0_ : Aside0 (Kd.S (Kd.slice 3 (Kd.int .i64)) 31 ((w8.setCell ⟨gb375, 0, none⟩ (.int .i64 t369)).setCell ⟨gb375, 1, none⟩ (.slice Ao12 t370.length co12)) w.heap.size (fun _ => True) (.slice Ao12 t370.length co12) t370) := ⟨by (with_reducible repeat (first | apply Zs | apply Zr | apply Zp)); exact Zt (Zq (p := ⟨gb375, 1, none⟩) (Zq (p := ⟨gb375, 0, none⟩) (Zv HO372.out BK375.out (by decide)) (fun _ hk => hk.2) (.int .i64 t369)) (fun _ hk => hk.2) (.slice Ao12 t370.length co12)) (fun _ hk => trivial)⟩
 have n1_ : Aside0 (((w8.setCell ⟨gb375, 0, none⟩ (.int .i64 t369)).setCell ⟨gb375, 1, none⟩ (.slice Ao12 t370.length co12)).heap[gb364]? = some (.cells #[.int .i64 0, .slice none 0 0] 27 (0, 0))) := ⟨by (with_reducible repeat (first | refine Ze ?_ _ | refine Zf ?_ | refine Zd ?_ _)); refine ZG ?_ NB364_375.out _; (with_reducible repeat (first | refine Ze ?_ _ | refine Zf ?_ | refine Zd ?_ _)); refine ZG ?_ NB364_375.out _; (with_reducible repeat (first | refine Ze ?_ _ | refine Zf ?_ | refine Zd ?_ _)); exact BK364.out⟩
 have n2_ : Aside0 (((w8.setCell ⟨gb375, 0, none⟩ (.int .i64 t369)).setCell ⟨gb375, 1, none⟩ (.slice Ao12 t370.length co12)).heap[gb375]? = some (.cells #[.int .i64 t369, .slice Ao12 t370.length co12] 27 (0, 0))) := ⟨by (with_reducible repeat (first | refine Ze ?_ _ | refine Zf ?_ | refine Zd ?_ _)); refine ZB (cs := #[.int .i64 t369, .slice none 0 0]) ?_ 1 _ rfl; (with_reducible repeat (first | refine Ze ?_ _ | refine Zf ?_ | refine Zd ?_ _)); refine ZB (cs := #[.int .i64 0, .slice none 0 0]) ?_ 0 _ rfl; (with_reducible repeat (first | refine Ze ?_ _ | refine Zf ?_ | refine Zd ?_ _)); exact BK375.out⟩
 have n3_ : Aside0 (IsS93 w ((w8.setCell ⟨gb375, 0, none⟩ (.int .i64 t369)).setCell ⟨gb375, 1, none⟩ (.slice Ao12 t370.length co12)) g368 t365 t373 t374) := ⟨by repeat (first | (with_reducible first | exact HI368.out | apply IsS93.alloc | apply IsS93.drewN | apply IsS93.drew | apply IsS93.set_1 | apply IsS93.set_2 | refine IsS93.far ?_ NB368_364.out _ | refine IsS93.far ?_ NB368_375.out _) | exact HI368.out)⟩
 have n4_ : Aside0 (Below w.heap.size w ((w8.setCell ⟨gb375, 0, none⟩ (.int .i64 t369)).setCell ⟨gb375, 1, none⟩ (.slice Ao12 t370.length co12))) := ⟨by repeat (first | (with_reducible first | exact HB.out | apply Zk | apply Zi | apply Zj | refine Zc ?_ (IsS93.ge HI368.out) | refine Zc ?_ GE364.out | refine Zc ?_ GE375.out) | exact HB.out)⟩
 (try clear HO372)
 (try clear BK364)
 (try clear BK375)
 (try clear HI368)
 (try clear HB)
 generalize ((w8.setCell ⟨gb375, 0, none⟩ (.int .i64 t369)).setCell ⟨gb375, 1, none⟩ (.slice Ao12 t370.length co12)) = w13 at n0_ n1_ n2_ n3_ n4_ ⊢
 have HO372 := n0_
 have BK364 := n1_
 have BK375 := n2_
 have HI368 := n3_
 have HB := n4_
 clear n0_ n1_ n2_ n3_ n4_
 replace HO372 := Aside0.mk (Zp HO372.out)
 replace BK364 := Aside0.mk (Zf BK364.out)
 replace BK375 := Aside0.mk (Zf BK375.out)
 replace HI368 := Aside0.mk (IsS93.drew HI368.out)
 replace HB := Aside0.mk (Zj HB.out)
 refine start_ (n := 6) (S := fun w' => w'.cell? ⟨gb375, 0, none⟩ = some (.int .i64 t369) ∧ w'.cell? ⟨gb375, 1, none⟩ = some (.slice Ao12 t370.length co12)) (ds := []) (m_ 6 0) (by kernel_rfl) rfl rfl ⟨(Za BK375.out 0).trans rfl, (Za BK375.out 1).trans rfl⟩ (fun hHeld => ?_)
 generalize w13.drew = w14 at HO372 BK364 BK375 HI368 HB hHeld ⊢
 refine pu_ 1 11 (m_ 6 2) ?_
 refine tk2_ 0 10 (m_ 6 3) hHeld ?_
 refine tk2_ 2 12 (m_ 6 7) hHeld ?_
 refine on_ 3 13 (m_ 6 15) (fun K hK => ?_)
 refine goes_ Try.func100 (by kernel_rfl) rfl #[.pointer (some ⟨g368, 0, none⟩), .agg #[.int .i64 t369, .slice Ao12 t370.length co12]] (by rfl) rfl rfl ar_ ?_
 with_reducible refine (spec_l4Set.calls k g368 t365 t373 t374 t369 _ _ t370 t376 t379 t380 w _ ?side1 ?side2 ?side3 ?side4 A4.out).mono ?_
 (case side1 => repeat (first | (with_reducible first | exact HI368.out | apply IsS93.alloc | apply IsS93.drewN | apply IsS93.drew | apply IsS93.set_1 | apply IsS93.set_2 | refine IsS93.far ?_ NB368_364.out _ | refine IsS93.far ?_ NB368_375.out _) | exact HI368.out))
 (case side2 => repeat (first | (with_reducible first | exact HB.out | apply Zk | apply Zi | apply Zj | refine Zc ?_ (IsS93.ge HI368.out) | refine Zc ?_ GE364.out | refine Zc ?_ GE375.out) | exact HB.out))
 (case side3 => exact Kd.C_foot_own ((Kd.S_R (IsS93.apartS (show IsS93 w _ g368 t365 t373 t374 from by repeat (first | (with_reducible first | exact HI368.out | apply IsS93.alloc | apply IsS93.drewN | apply IsS93.drew | apply IsS93.set_1 | apply IsS93.set_2 | refine IsS93.far ?_ NB368_364.out _ | refine IsS93.far ?_ NB368_375.out _) | exact HI368.out)) (rS_ HO372.out) (by decide)))) (fun _ h_ => h_.2))
 (case side4 => exact (ZK HO372.out).2.1)
 rintro e w15 ⟨v377, rfl, ho0, hi, hb, hk⟩
 refine ⟨_, rfl, ?_⟩
 replace BK364 := Aside0.mk (ZR hk (g' := gb364) (o := .cells #[.int .i64 0, .slice none 0 0] 27 (0, 0)) (bk_ BK364.out) NB364_368.out (by simp))
 replace HO372 := Aside0.mk (Zt (Kd.S_told (Kd.S_oldK (IsS93.apartS (show IsS93 w _ g368 t365 t373 t374 from by repeat (first | (with_reducible first | exact HI368.out | apply IsS93.alloc | apply IsS93.drewN | apply IsS93.drew | apply IsS93.set_1 | apply IsS93.set_2 | refine IsS93.far ?_ NB368_364.out _ | refine IsS93.far ?_ NB368_375.out _) | exact HI368.out)) (rS_ HO372.out) (by decide)) hk) (Kd.R_base ho0)) (fun _ h_ => h_.1))
 replace BK375 := Aside0.mk (ZR hk (g' := gb375) (o := .cells #[.int .i64 t369, .slice Ao12 t370.length co12] 27 (0, 0)) (bk_ BK375.out) NB375_368.out (by simp))
 have HO378 := Aside0.mk (Kd.R_lower ho0 (Zm (by repeat (first | (with_reducible first | exact HB.out | apply Zk | apply Zi | apply Zj | refine Zc ?_ (IsS93.ge HI368.out) | refine Zc ?_ GE364.out | refine Zc ?_ GE375.out) | exact HB.out))))
 replace HB := Aside0.mk (hb)
 replace HI368 := Aside0.mk (hi)
 (try clear hb)
 (try clear hb2)
 (try clear hk)
 (try clear hi)
 (try clear ho0)
 refine hK.out _ _ ⟨(Za BK375.out 0).trans rfl, (Za BK375.out 1).trans rfl⟩ (fun hHeld => ?_)
 clear hK K
 refine no_ 13 ?_
 refine one_ (i := 4) (N := none) (m_ 6 31) rfl rfl (by kernel_rfl) (by decide) (fun K hK => ?_)
 have hs16 : w15.cell? ⟨gb364, 0, none⟩ = some (.int .i64 0) := (Za BK364.out 0).trans rfl
 have hfs16 := Zb BK364.out 0
 have hns16_1 := NB375_364.out
 have hms16_1 := NB364_375.out
 have hs17 : w15.cell? ⟨gb364, 1, none⟩ = some (.slice none 0 0) := (Za BK364.out 1).trans rfl
 have hfs17 := Zb BK364.out 1
 have hns17_1 := NB375_364.out
 have hms17_1 := NB364_375.out
 refine skip_ (w1 := ?_) (by rfl) rfl ?_ ?_
 rotate_left
 ·go_simp
  rfl
 refine hK.out _ _ ⟨((cell_far (p := ⟨gb364, _, none⟩) NB375_364.out _).trans (((cell_far (p := ⟨gb364, _, none⟩) NB375_364.out _).trans (hHeld.1)))), ((cell_far (p := ⟨gb364, _, none⟩) NB375_364.out _).trans (((cell_far (p := ⟨gb364, _, none⟩) NB375_364.out _).trans (hHeld.2))))⟩ (fun hHeld => ?_)
 clear hK K
 refine pu_ 5 3 (m_ 6 63) ?_
 refine done_ (by kernel_rfl) ?_
 try go_wp2
 refine bodyPost_ret (results_ct rfl _ _ gb364 27 #[.int .i64 t369, .slice Ao12 t370.length co12] (0, 0) _ rfl (by (with_reducible repeat (first | refine Ze ?_ _ | refine Zf ?_ | refine Zd ?_ _)); refine ZB (cs := #[.int .i64 t369, .slice none 0 0]) ?_ 1 _ rfl; (with_reducible repeat (first | refine Ze ?_ _ | refine Zf ?_ | refine Zd ?_ _)); refine ZB (cs := #[.int .i64 0, .slice none 0 0]) ?_ 0 _ rfl; (with_reducible repeat (first | refine Ze ?_ _ | refine Zf ?_ | refine Zd ?_ _)); exact BK364.out) Try.underlying27 rfl (by kernel_rfl)) rfl ?_
 exact ⟨_, _, er_, by (with_reducible repeat (first | apply Zs | apply Zr | apply Zp)); exact Zt (Zq (p := ⟨gb364, 1, none⟩) (Zq (p := ⟨gb364, 0, none⟩) (Zv HO372.out BK364.out (by decide)) (fun _ hk => hk.2) (.int .i64 t369)) (fun _ hk => hk.2) (.slice Ao12 t370.length co12)) (fun _ hk => hk.1.2), by (with_reducible repeat (first | apply ZP | apply ZO | apply ZU)); exact Zw (Kd.R_far (p := ⟨gb364, 1, none⟩) (Kd.R_far (p := ⟨gb364, 0, none⟩) (Kd.R_types HO378.out BK364.out (by decide)) (fun _ hk => hk.2) (.int .i64 t369)) (fun _ hk => hk.2) (.slice Ao12 t370.length co12)) (fun _ hk => trivial), by repeat (first | (with_reducible first | exact HB.out | apply Zk | apply Zi | apply Zj | refine Zc ?_ (IsS93.ge HI368.out) | refine Zc ?_ GE364.out | refine Zc ?_ GE375.out) | exact HB.out)⟩

end Go.Proofs.Ytdlobolnajcfnaa.PFnDisputes
