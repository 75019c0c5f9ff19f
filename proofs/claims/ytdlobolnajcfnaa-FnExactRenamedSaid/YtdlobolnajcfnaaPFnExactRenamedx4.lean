-- Written by a program of this session (hooks of mine on the print): Lean checks it.
import Derived.Test.YtdlobolnajcfnaaPFnExactRenamedx0
import Derived.Test.YtdlobolnajcfnaaPFnExactRenamedx2
namespace Go.Proofs.Ytdlobolnajcfnaa.PFnExactRenamed
open Go.RowKit Go.Proofs.YtdlobolnajcfnaaW.PrintWords Go.Proofs.YtdlobolnajcfnaaW.PrintLast Go.Proofs.YtdlobolnajcfnaaW.PrintMore
attribute [local go_sem] max2_int min2_int max_two min_two max_three min_three max_four min_four   -- for this text's walks alone
set_option linter.unusedVariables false
set_option linter.unusedSimpArgs false

/-! ### slices_SortFunc_int_int: function 66 -/
/-- slices.SortFunc of rows by slices.Compare: the row holds the same rows, in order. -/
def cmpR (x y : List Int) : Int := if x < y then -1 else if y < x then 1 else 0
def sortR (l : List (List Int)) : List (List Int) := l.mergeSort fun x y => decide (¬ y < x)
theorem sortR_len (l : List (List Int)) : (sortR l).length = l.length := List.length_mergeSort ..
def slices_SortFunc_int_int.f (k : Nat) (l0 : List (List Int)) (a1 : Nat) : Option (List (List Int)) := if a1 = 67 ∧ l0.length < 4611686018427387904 ∧ ∀ x ∈ l0, ∀ y ∈ l0, slices_Compare_int_int.f k x y = some (cmpR x y) then some (sortR l0) else none
theorem slices_SortFunc_int_int.mono : ∀ a0 a1 k, LeO (slices_SortFunc_int_int.f k a0 a1) (slices_SortFunc_int_int.f (k + 1) a0 a1) := by
  intro a0 a1 k r h
  unfold slices_SortFunc_int_int.f at h ⊢
  by_cases c : a1 = 67 ∧ a0.length < 4611686018427387904 ∧ ∀ x ∈ a0, ∀ y ∈ a0, slices_Compare_int_int.f k x y = some (cmpR x y)
  · rw [if_pos c] at h
    rw [if_pos ⟨c.1, c.2.1, fun x hx y hy => slices_Compare_int_int.mono _ _ _ _ (c.2.2 x hx y hy)⟩]
    exact h
  · rw [if_neg c] at h
    cases h
section
variable {α : Type} [Inhabited α] {enc : α → Value}
theorem heap_sortedE {w : World} {g n : Nat} {os : Array Obj} {cur : Array Value} {e : TypeId} {fr : Nat × Nat} (d : Array α) (hb : w.heap[g]? = some (.cells cur e fr)) : (sortWorld enc w g 0 n d os).heap[g]? = some (.cells (Go.Sort.putCells enc 0 d cur) e fr) := by
  have hg : g < w.heap.size := (Array.getElem?_eq_some_iff.1 hb).1
  unfold sortWorld
  rw [Go.Sort.heap_grow_old _ _ (by simpa using hg)]
  simp [Go.Sort.putRow, Go.Sort.mapBlock, Go.Sort.ahead, Array.getElem?_modify, hb, Go.Sort.onCells]
theorem grownBy_sortedE {w : World} {g n : Nat} {os : Array Obj} (d : Array α) : w.grownBy (sortWorld enc w g 0 n d os) (some g) := by
  refine ⟨rfl, rfl, rfl, by simp [sortWorld], fun k hk hne => ?_⟩
  unfold sortWorld
  rw [Go.Sort.heap_grow_old _ _ (by simpa using hk)]
  have : g ≠ k := fun e => hne (by rw [e])
  simp [Go.Sort.putRow, Go.Sort.mapBlock, Go.Sort.ahead, Array.getElem?_modify, this]
theorem take_putCellsE (cur : Array Value) (ts : Array α) (h : ts.size ≤ cur.size) : (Go.Sort.putCells enc 0 ts cur).toList.take ts.size = ts.toList.map enc := by
  apply List.ext_getElem?
  intro j
  by_cases hj : j < ts.size
  · rw [List.getElem?_take_of_lt hj, Array.getElem?_toList]
    simp [Go.Sort.putCells, hj, show j < cur.size by omega]
  · rw [List.getElem?_take_eq_none (by omega), List.getElem?_eq_none (by simp; omega)]
end
theorem cmpR_lt (x y : List Int) : cmpR x y < 0 ↔ x < y := by
  unfold cmpR
  by_cases h : x < y
  · rw [if_pos h]; exact ⟨fun _ => h, fun _ => by decide⟩
  · rw [if_neg h]
    refine ⟨fun h2 => ?_, fun h2 => absurd h2 h⟩
    split at h2 <;> omega
theorem drop_take_one {β : Type} (l : List β) (j : Nat) (v : β) (h : l[j]? = some v) : (l.drop (j * 1)).take 1 = [v] := by
  obtain ⟨hj, e⟩ := List.getElem?_eq_some_iff.1 h
  rw [Nat.mul_one, List.drop_eq_getElem_cons hj, e, List.take_succ_cons, List.take_zero]
/-- Sorting the places of a row's elements sorts the row. -/
theorem sort_places {n : Nat} (l : List (List Int)) (hn : n = l.length) (h0 : 0 < n) (d' : List (Fin n)) (hp : d'.Perm (List.finRange n)) (hs : d'.Pairwise fun i j => ¬ l.getD j.val [] < l.getD i.val []) : d'.map (fun i => l.getD i.val []) = sortR l := by
  subst hn
  have hl : (List.finRange l.length).map (fun i => l.getD i.val []) = l := by
    apply List.ext_getElem (by simp)
    intro i h1 h2
    simp
  have h1 : (d'.map (fun i => l.getD i.val [])).Perm (sortR l) := by
    refine (hp.map _).trans ?_
    rw [hl]
    exact (List.mergeSort_perm l _).symm
  refine List.Perm.eq_of_pairwise (le := fun x y => ¬ y < x) ?_ ?_ ?_ h1
  · intro a b _ _ hab hba
    exact List.le_antisymm hab hba
  · rw [List.pairwise_map]
    exact hs
  · have := List.pairwise_mergeSort (le := fun x y : List Int => decide (¬ y < x)) (fun a b c h1 h2 => by
      rw [decide_eq_true_eq] at h1 h2 ⊢
      exact List.le_trans h1 h2) (fun a b => by
      rw [Bool.or_eq_true, decide_eq_true_eq, decide_eq_true_eq]
      exact List.le_total a b) l
    refine List.Pairwise.imp ?_ this
    intro a b h
    exact of_decide_eq_true h
set_option maxHeartbeats 8000000 in
set_option maxRecDepth 100000 in
theorem slices_SortFunc_int_int.calls (k : Nat) (P0_ : Nat → Prop) (u9000_ : Value) (l0 : List (List Int)) (a1 : Nat) (r1 : List (List Int)) (w0 w : World) (hB : Below w0.heap.size w0 w) (ho0 : Kd.S (Kd.slice 3 (Kd.int .i64)) 31 w w0.heap.size P0_ u9000_ l0) (h : slices_SortFunc_int_int.f k l0 a1 = some r1) :
    Calls Try.prog 66 #[u9000_, .func (.func a1) #[] #[]] w fun e w' => e = .returned (.tuple #[]) ∧ Kd.S (Kd.slice 3 (Kd.int .i64)) 31 w' w0.heap.size P0_ u9000_ r1 ∧ Below w0.heap.size w0 w' ∧ Kept w w' (fun k_ => some k_ = (u9000_ : Value).ownBlock) := by
  unfold slices_SortFunc_int_int.f at h
  by_cases c : a1 = 67 ∧ l0.length < 4611686018427387904 ∧ ∀ x ∈ l0, ∀ y ∈ l0, slices_Compare_int_int.f k x y = some (cmpR x y)
  rotate_left
  · rw [if_neg c] at h
    cases h
  rw [if_pos c] at h
  obtain rfl := Option.some.inj h
  clear h
  obtain ⟨rfl, hlen, hcmp⟩ := c
  have hS := ho0
  obtain ⟨f, h0, inner, ho, hr⟩ := ho0
  rw [List.length_zipIdx] at ho
  by_cases hpos : 0 < l0.length
  rotate_left
  · obtain rfl := List.eq_nil_of_length_eq_zero (show l0.length = 0 by omega)
    obtain ⟨A, c, hv⟩ := own_slice ho
    subst hv
    refine (YtdlobolnajcfnaaSh.sort_none A c _ w).mono ?_
    rintro e w' ⟨rfl, rfl⟩
    exact ⟨rfl, by rw [show sortR [] = [] by simp [sortR]]; exact hS, hB, Kept.refl _ _⟩
  obtain ⟨hil, hv⟩ := ho
  rcases hv with ⟨_, hz⟩ | ⟨g, cap, cur, rfl, hbg, hh, hnc, hcm, hcs, ht⟩
  · omega
  have hgl : g < w.heap.size := (Array.getElem?_eq_some_iff.1 hh).1
  rw [show (Kd.tag f (Kd.slice 3 (Kd.int .i64))).sz = 1 from rfl] at hil hcs ht hr
  rw [Nat.mul_one] at hil hcs ht
  have hil2 : inner.length = l0.length := hil
  clear hS hil
  generalize hN : l0.length = n at hpos hlen hil2 hnc ht h0 hr ⊢
  have : Inhabited (Fin n) := ⟨⟨0, hpos⟩⟩
  have hin : ∀ i : Fin n, inner[i.val]? = some (inner.getD i.val (.int .i64 0)) := fun i => by
    rw [List.getD_eq_getElem?_getD, List.getElem?_eq_getElem (by omega)]
    rfl
  have hli : ∀ i : Fin n, l0[i.val]? = some (l0.getD i.val []) := fun i => by
    rw [List.getD_eq_getElem?_getD, List.getElem?_eq_getElem (by omega)]
    rfl
  have hM : ∀ i : Fin n, (Kd.slice 3 (Kd.int .i64)).M w w0.heap.size (fun k_ => (P0_ k_ ∧ some k_ ≠ (Value.slice (some ⟨g, 0, none⟩) n cap).ownBlock) ∧ f k_ = i.val) (l0.getD i.val []) [inner.getD i.val (.int .i64 0)] := fun i => by
    have h1 := hr.2 i.val _ (Kd.zip_at (hli i))
    rw [drop_take_one inner i.val _ (hin i)] at h1
    exact h1
  let enc : Fin n → Value := fun i => inner.getD i.val (.int .i64 0)
  have hone : OneCell enc := fun i => by
    obtain ⟨v, hv, hR⟩ := hM i
    have hv2 : inner.getD i.val (.int .i64 0) = v := by injection hv
    show (inner.getD i.val (.int .i64 0)).oneCell' = true
    rw [hv2]
    exact (Kd.R_val hR).2
  have hgne : ∀ k_, (P0_ k_ ∧ some k_ ≠ (Value.slice (some ⟨g, 0, none⟩) n cap).ownBlock) → some k_ ≠ some g := fun k_ hk => hk.2
  have hmv : ∀ (i : Fin n) (W : World), w.grownBy W (some g) → (Kd.slice 3 (Kd.int .i64)).M W w0.heap.size (fun k_ => (P0_ k_ ∧ some k_ ≠ (Value.slice (some ⟨g, 0, none⟩) n cap).ownBlock) ∧ f k_ = i.val) (l0.getD i.val []) [enc i] := fun i W hW => Kd.M_grown (hM i) hW (fun k_ hk => hgne k_ hk.1)
  have hO : Go.Sort.SWO (ltOf fun i j : Fin n => cmpR (l0.getD i.val []) (l0.getD j.val [])) := by
    refine ⟨fun x => ?_, fun x y z hxy hyz => ?_, fun x y z hxy hyz => ?_⟩
    · unfold ltOf
      rw [decide_eq_false_iff_not, cmpR_lt]
      exact List.lt_irrefl _
    · unfold ltOf at hxy hyz ⊢
      rw [decide_eq_true_eq, cmpR_lt] at hxy hyz ⊢
      exact List.lt_trans hxy hyz
    · unfold ltOf at hxy hyz ⊢
      rw [decide_eq_false_iff_not, cmpR_lt] at hxy hyz ⊢
      exact List.le_trans hyz hxy
  have hC : CmpLays1 Try.prog 67 #[] enc (fun i j : Fin n => cmpR (l0.getD i.val []) (l0.getD j.val [])) g 0 (List.finRange n).toArray.size w := by
    refine CmpReads.lays ?_
    intro m os dk _ x y
    have hW := grownBy_sortedE (enc := enc) (w := w) (g := g) (n := m) (os := os) dk
    obtain ⟨A1, c1, e1, hl1, hr1⟩ := (Kd.slice 3 (Kd.int .i64)).K_of_M (hmv x _ hW)
    obtain ⟨A2, c2, e2, hl2, hr2⟩ := (Kd.slice 3 (Kd.int .i64)).K_of_M (hmv y _ hW)
    have e1 : enc x = .slice A1 (l0.getD x.val []).length c1 := by injection e1
    have e2 : enc y = .slice A2 (l0.getD y.val []).length c2 := by injection e2
    rw [e1, e2]
    refine (slices_Compare_int_int.calls k A1 c1 _ A2 c2 _ _ _ hr1 hl1 hr2 hl2 (hcmp _ (List.mem_of_getElem? (hli x)) _ (List.mem_of_getElem? (hli y)))).mono ?_
    rintro e w' ⟨rfl, q, hq⟩
    exact ⟨rfl, q, hq⟩
  have hH : Go.Sort.Holds enc w g 0 (List.finRange n).toArray := by
    intro j hj
    have hj' : j < n := by simpa using hj
    have hd : (List.finRange n).toArray[j]! = ⟨j, hj'⟩ := by
      rw [getElem!_pos _ j hj]
      simp
    refine ⟨?_, by simp [World.frozen?, hh]⟩
    rw [hd]
    have h1 : (cur.toList.take n)[j]? = some (enc ⟨j, hj'⟩) := by rw [ht]; exact hin ⟨j, hj'⟩
    rw [List.getElem?_take_of_lt hj'] at h1
    simp only [World.cell?, hh, Nat.zero_add]
    simp only [Option.isSome_none, Bool.false_eq_true, if_false]
    rw [← Array.getElem?_toList, h1]
  have hsz : (List.finRange n).toArray.size = n := by simp
  have hcall := YtdlobolnajcfnaaSh.sort_calls enc hone (fun i j : Fin n => cmpR (l0.getD i.val []) (l0.getD j.val [])) hO 67 g 0 cap (List.finRange n).toArray w (enters_of Try.func67 (by kernel_rfl) rfl) hC hH hgl (by rw [hsz]; exact hlen)
  rw [hsz] at hcall
  refine hcall.mono ?_
  rintro e w' ⟨rfl, d', m, os, hp, hs, rfl⟩
  obtain ⟨hp1, _, hp3⟩ := hp
  rw [hsz] at hp1
  have hp4 : d'.toList.Perm (List.finRange n) := by
    have e1 : d'.extract 0 n = d' := by
      have := Array.extract_size (xs := d')
      rwa [hp1] at this
    have e2 : (List.finRange n).toArray.extract 0 n = (List.finRange n).toArray := by
      have := Array.extract_size (xs := (List.finRange n).toArray)
      rwa [hsz] at this
    rwa [e1, e2] at hp3
  have hnd : d'.toList.Nodup := hp4.nodup_iff.2 (List.nodup_finRange n)
  have hpw : d'.toList.Pairwise fun i j => ¬ l0.getD j.val [] < l0.getD i.val [] := by
    rw [List.pairwise_iff_getElem]
    intro i j hi hj hij
    have hi2 : i < d'.size := by simpa using hi
    have hj2 : j < d'.size := by simpa using hj
    have h2 := hs i j (Nat.zero_le _) hij (by omega)
    unfold ltOf at h2
    rw [decide_eq_false_iff_not, cmpR_lt, getElem!_pos _ i hi2, getElem!_pos _ j hj2] at h2
    simpa using h2
  have hsort := sort_places l0 hN.symm hpos d'.toList hp4 hpw
  have hg := grownBy_sortedE (enc := enc) (w := w) (g := g) (n := m) (os := os) d'
  refine ⟨rfl, ?_, hB.grown hg hB.size (by intro k hk; injection hk with hk; omega), Kept.of_grown hg (Kept.refl w _) (by intro k hk; injection hk with hk; subst hk; exact .inl rfl)⟩
  have hdl : d'.toList.length = n := by simpa using hp1
  have hrl : (sortR l0).length = n := by rw [sortR_len, hN]
  refine ⟨fun k_ => if hk : f k_ < n then d'.toList.idxOf ⟨f k_, hk⟩ else n, h0, d'.toList.map enc, ⟨by rw [List.length_zipIdx, hrl, List.length_map, hdl]; exact (Nat.mul_one n).symm, .inr ⟨g, cap, _, by rw [List.length_zipIdx, hrl], hbg, heap_sortedE d' hh, by rw [List.length_zipIdx, hrl]; exact hnc, hcm, by rw [show (Kd.tag _ (Kd.slice 3 (Kd.int .i64))).sz = 1 from rfl, Nat.mul_one]; simp [Go.Sort.putCells, hcs], ?_⟩⟩, ?_, ?_⟩
  · rw [show (Kd.tag _ (Kd.slice 3 (Kd.int .i64))).sz = 1 from rfl, Nat.mul_one, List.length_zipIdx, hrl]
    have := take_putCellsE (enc := enc) cur d' (by omega)
    rwa [hp1] at this
  · rw [List.length_map, List.length_zipIdx, hrl, hdl]
    exact (Nat.mul_one n).symm
  · intro j p hj
    obtain ⟨hjl, _⟩ := List.getElem?_eq_some_iff.1 hj
    rw [List.length_zipIdx, hrl] at hjl
    have hdj : d'.toList[j]? = some (d'.toList[j]'(by omega)) := List.getElem?_eq_getElem (by omega)
    generalize hi : d'.toList[j]'(by omega) = i at hdj
    rw [show (Kd.tag _ (Kd.slice 3 (Kd.int .i64))).sz = 1 from rfl, drop_take_one _ j (enc i) (by rw [List.getElem?_map, hdj]; rfl)]
    have hrj : (sortR l0)[j]? = some (l0.getD i.val []) := by rw [← hsort, List.getElem?_map, hdj]; rfl
    rw [Kd.zip_at hrj] at hj
    obtain rfl := Option.some.inj hj
    have h2 := hmv i _ hg
    refine (Kd.slice 3 (Kd.int .i64)).M_mono ?_ h2
    intro k_ hk
    refine ⟨hk.1, ?_⟩
    have hfk : f k_ < n := by rw [hk.2]; exact i.isLt
    dsimp only
    rw [dif_pos hfk, show (⟨f k_, hfk⟩ : Fin n) = i from Fin.ext hk.2, ← hi]
    exact hnd.idxOf_getElem j (by omega)

/-! ### slices_Index_int_int: function 116 -/
def slices_Index_int_int.l0 : Nat → List Int → Int → Int → Int → Option (Int)
 | 0, _, _, _, _ => none
 | k + 1, x0, x1, x7, x8 => if x8 < x7 then (if 0 ≤ x8 then (if x8 < (x0.length : Int) then (if x1 = (rd x0 x8) then (some x8) else (slices_Index_int_int.l0 k x0 x1 x7 (wrap64 (x8 + 1)))) else (none)) else (none)) else (some (-1))
def slices_Index_int_int.f (k : Nat) (l0 : List Int) (a1 : Int) : Option (Int) := slices_Index_int_int.l0 k l0 a1 (l0.length : Int) 0
theorem slices_Index_int_int.mono_l : ∀ k, (∀ y0 y1 y2 y3, LeO (slices_Index_int_int.l0 k y0 y1 y2 y3) (slices_Index_int_int.l0 (k + 1) y0 y1 y2 y3))
 | 0 => fun _ _ _ _ r h => by simp [slices_Index_int_int.l0] at h
 | k + 1 => by
  have ih0 := slices_Index_int_int.mono_l k
  ·intro y0 y1 y2 y3
   unfold slices_Index_int_int.l0
   repeat' first
   | (with_reducible exact ih0 _ _ _ _)
   | (with_reducible exact LeO.refl _)
   | (with_reducible exact ZE _)
   | (with_reducible refine ZH ?_ ?_)
   | (with_reducible refine ZD ?_ (fun _ => ?_))
   | exact ih0 _ _ _ _
   | exact ZE _
   | refine ZH ?_ ?_
   | refine ZD ?_ (fun _ => ?_)
theorem slices_Index_int_int.mono : ∀ a0 a1 k, LeO (slices_Index_int_int.f k a0 a1) (slices_Index_int_int.f (k + 1) a0 a1) := by
 intro a0 a1 k
 have ih0 := slices_Index_int_int.mono_l k
 unfold slices_Index_int_int.f
 repeat' first
   | (with_reducible exact ih0 _ _ _ _)
   | (with_reducible exact LeO.refl _)
   | (with_reducible exact ZE _)
   | (with_reducible refine ZH ?_ ?_)
   | (with_reducible refine ZD ?_ (fun _ => ?_))
   | exact ih0 _ _ _ _
   | exact ZE _
   | refine ZH ?_ ?_
   | refine ZD ?_ (fun _ => ?_)
set_option maxHeartbeats 8000000 in
set_option maxRecDepth 100000 in
theorem slices_Index_int_int.calls (k : Nat) (A0 : Option Addr) (c0 : Nat) (l0 : List Int) (a1 : Int) (r : Int) (w : World) (hr0 : Kd.C (Kd.int .i64) w A0 l0.length l0) (hc0 : l0.length ≤ c0) (h : slices_Index_int_int.f k l0 a1 = some r) :
  Calls Try.prog 116 #[.slice A0 l0.length c0, .int .i64 a1] w fun e w' => e = .returned (.int .i64 r) ∧ Drawn0 w w' := by
 have HR0 := Aside0.mk hr0
 have HC0 := Aside0.mk hc0
 clear hr0 hc0
 have H : (slices_Index_int_int.l0 k l0 a1 (l0.length : Int) 0) = some r := h
 clear h
 have H' := Aside0.mk H
 clear H
 go_enter Try.func116, Try.ntmps116
 go_wp2
 go_loopg [8] k (fun kq v8 w' => ∃ (x8_1 : Int), v8 = .int .i64 x8_1 ∧ Aside0 (slices_Index_int_int.l0 kq l0 a1 (l0.length : Int) x8_1 = some r) ∧ Aside0 (kq ≤ k) ∧ Drawn0 w w')
 case atStart => exact ⟨(0), (by first | rfl | (simp; done) | (simp [*]; done)), H', ⟨Nat.le_refl _⟩, by repeat (first | exact ZM _ | apply ZL)⟩
 case round =>
  clear H'
  try clear c1
  try clear p2
  obtain ⟨x8_1, rfl, HA, HK1, ⟨m1, rfl⟩⟩ := hrel
  cases gk with
  | zero => exact absurd HA.out (by simp [slices_Index_int_int.l0])
  | succ k1 =>
   have H := HA.out
   clear HA
   simp only [slices_Index_int_int.l0] at H
   by_cases c3 : x8_1 < (l0.length : Int)
   ·rw [if_pos c3] at H
    have c3b0 : decide (x8_1 < (l0.length : Int)) = true := decide_eq_true c3
    clear c3
    by_cases c4 : 0 ≤ x8_1
    ·rw [if_pos c4] at H
     have c4b0 : decide (0 ≤ x8_1) = true := decide_eq_true c4
     clear c4
     by_cases c5 : x8_1 < (l0.length : Int)
     ·rw [if_pos c5] at H
      have c5b0 : decide (x8_1 < (l0.length : Int)) = true := decide_eq_true c5
      clear c5
      by_cases c6 : a1 = (rd l0 x8_1)
      ·rw [if_pos c6] at H
       have c6b0 : (a1 == (rd l0 x8_1)) = true := beq_iff_eq.mpr c6
       have c6b1 : (a1 != (rd l0 x8_1)) = false := bne_eq_false_iff_eq.mpr c6
       clear c6
       obtain rfl := Option.some.inj H
       have p148 : 0 ≤ (x8_1 : Int) := of_decide_eq_true (by first | (with_reducible assumption) | assumption)
       have q148 : x8_1 < (l0.length : Int) := of_decide_eq_true (by first | (with_reducible assumption) | assumption)
       obtain ⟨ad148, e148, hx148_0⟩ := ZI HR0.out x8_1 p148 q148
       cases e148
       replace p148 := eq_true p148
       replace q148 := eq_true q148
       go_wp2
       go_ret
       exact ⟨by first | rfl | (simp; done) | (simp [*]; done), by repeat (first | exact ZM _ | apply ZL)⟩
      ·rw [if_neg c6] at H
       have c6b0 : (a1 == (rd l0 x8_1)) = false := beq_eq_false_iff_ne.mpr c6
       have c6b1 : (a1 != (rd l0 x8_1)) = true := bne_iff_ne.mpr c6
       have H' := Aside0.mk H
       clear H
       have p148 : 0 ≤ (x8_1 : Int) := of_decide_eq_true (by first | (with_reducible assumption) | assumption)
       have q148 : x8_1 < (l0.length : Int) := of_decide_eq_true (by first | (with_reducible assumption) | assumption)
       obtain ⟨ad148, e148, hx148_0⟩ := ZI HR0.out x8_1 p148 q148
       cases e148
       replace p148 := eq_true p148
       replace q148 := eq_true q148
       go_wp2
       go_roundg k1
       case measure => have := HK1.out; omega
       case rel => exact ⟨(wrap64 (x8_1 + 1)), (by first | rfl | (simp; done) | (simp [*]; done)), H', ⟨by have := HK1.out; omega⟩, by repeat (first | exact ZM _ | apply ZL)⟩
     ·rw [if_neg c5] at H
      exact absurd H (by simp)
    ·rw [if_neg c4] at H
     exact absurd H (by simp)
   ·rw [if_neg c3] at H
    have c3b0 : decide (x8_1 < (l0.length : Int)) = false := decide_eq_false c3
    clear c3
    obtain rfl := Option.some.inj H
    go_wp2
    go_ret
    exact ⟨by first | rfl | (simp; done) | (simp [*]; done), by repeat (first | exact ZM _ | apply ZL)⟩

/-! ### slices_Contains_int_int: function 80 -/
def slices_Contains_int_int.f (k : Nat) (l0 : List Int) (a1 : Int) : Option (Bool) := (slices_Index_int_int.f k l0 a1).bind fun t149 => (some (decide (t149 ≥ 0)))
theorem slices_Contains_int_int.mono : ∀ a0 a1 k, LeO (slices_Contains_int_int.f k a0 a1) (slices_Contains_int_int.f (k + 1) a0 a1) := by
 intro a0 a1 k
 unfold slices_Contains_int_int.f
 repeat' first
   | (with_reducible exact slices_Index_int_int.mono _ _ _)
   | (with_reducible exact LeO.refl _)
   | (with_reducible exact ZE _)
   | (with_reducible refine ZH ?_ ?_)
   | (with_reducible refine ZD ?_ (fun _ => ?_))
   | exact slices_Index_int_int.mono _ _ _
   | exact ZE _
   | refine ZH ?_ ?_
   | refine ZD ?_ (fun _ => ?_)
set_option maxHeartbeats 8000000 in
set_option maxRecDepth 100000 in
theorem slices_Contains_int_int.calls (k : Nat) (A0 : Option Addr) (c0 : Nat) (l0 : List Int) (a1 : Int) (r : Bool) (w : World) (hr0 : Kd.C (Kd.int .i64) w A0 l0.length l0) (hc0 : l0.length ≤ c0) (h : slices_Contains_int_int.f k l0 a1 = some r) :
  Calls Try.prog 80 #[.slice A0 l0.length c0, .int .i64 a1] w fun e w' => e = .returned (.bool r) ∧ Drawn0 w w' := by
 have HR0 := Aside0.mk hr0
 have HC0 := Aside0.mk hc0
 clear hr0 hc0
 have H : ((slices_Index_int_int.f k l0 a1).bind fun t149 => (some (decide (t149 ≥ 0)))) = some r := h
 clear h
 replace H := Option.bind_eq_some_iff.mp H
 obtain ⟨t149, A30, H⟩ := H
 replace H : (some (decide (t149 ≥ 0))) = some r := H
 have A3 := Aside0.mk A30
 clear A30
 obtain rfl := Option.some.inj H
 go_enter Try.func80, Try.ntmps80
 go_wp2_with (first | ((with_reducible refine ZA (f := 116) rfl ?_); refine goesL_ (some 7) rfl rfl Try.func116 (by kernel_rfl) rfl #[.slice A0 l0.length c0, .int .i64 a1] rfl (by (try simp only [List.map_toArray, List.map_cons, List.map_nil]); first | done | rfl | (simp only [List.length_drop, List.length_take]; rfl)) ?_; (with_reducible refine (slices_Index_int_int.calls k _ _ l0 a1 t149 _ ?side1 ?side2 A3.out).mono ?_); (case side1 => repeat (first | exact HR0.out | (with_reducible refine Zw ?_ _) | (with_reducible refine Zv ?_ _) | (with_reducible refine Zz ?_))); (case side2 => exact HC0.out); rintro e w' ⟨rfl, ⟨nd, rfl⟩⟩; refine ⟨_, rfl, ?_⟩))
 go_ret
 exact ⟨by first | rfl | (simp; done) | (simp [*]; done), by repeat (first | exact ZM _ | apply ZL)⟩

/-! ### slices_Clone_int_int: function 94 -/
def slices_Clone_int_int.f (l0 : List Int) : Option (List Int) := (some (([] : List Int) : List Int)).bind fun y205 => (if y205.length + l0.length < 17592186044416 then (some (y205 ++ l0)) else (none))
set_option maxHeartbeats 8000000 in
set_option maxRecDepth 100000 in
theorem slices_Clone_int_int.some_ (ad : Addr) (c0 : Nat) (l0 : List Int) (r : List Int) (w : World) (hr0 : Kd.C (Kd.int .i64) w (some ad) l0.length l0) (hc0 : l0.length ≤ c0) (h : slices_Clone_int_int.f l0 = some r) :
    Calls Try.prog 94 #[.slice (some ad) l0.length c0] w fun e w' => ∃ v0_ : Value, e = .returned (v0_) ∧ Kd.R (Kd.int .i64) 3 w' w.heap.size (fun _ => True) v0_ r ∧ Below w.heap.size w w' := by
  have HR0 := Aside0.mk hr0
  have HC0 := Aside0.mk hc0
  clear hr0 hc0
  have HB := Aside0.mk (Below.refl w.heap.size w)
  have H : ((some (([] : List Int) : List Int)).bind fun y205 => (if y205.length + l0.length < 17592186044416 then (some (y205 ++ l0)) else (none))) = some r := h
  clear h
  obtain ⟨y205, hy205⟩ : ∃ y_ : List Int, y_ = (([] : List Int)) := ⟨_, rfl⟩
  replace H : (if y205.length + l0.length < 17592186044416 then (some (y205 ++ l0)) else (none)) = some r := by first | (rw [hy205]; with_reducible exact H) | (have H2_ := (Option.bind_some _ _).symm.trans H; rw [hy205]; with_reducible exact H2_) | (have H2_ := (Option.bind_some _ _).symm.trans H; with_reducible exact H2_) | with_reducible exact H | (rw [hy205]; exact H) | exact H
  have Ny205 := Aside0.mk hy205
  clear hy205
  by_cases c2 : y205.length + l0.length < 17592186044416
  · rw [if_pos c2] at H
    have LMc2 := Aside0.mk c2
    clear c2
    obtain ⟨y208, hy208⟩ : ∃ y_ : List Int, y_ = (y205 ++ l0) := ⟨_, rfl⟩
    replace H : (some y208) = some r := by first | (rw [hy208]; with_reducible exact H) | (have H2_ := (Option.bind_some _ _).symm.trans H; rw [hy208]; with_reducible exact H2_) | (have H2_ := (Option.bind_some _ _).symm.trans H; with_reducible exact H2_) | with_reducible exact H | (rw [hy208]; exact H) | exact H
    have Ny208 := Aside0.mk hy208
    clear hy208
    obtain rfl := Option.some.inj H
    have he : ∀ w : World, (binOp .eql 31 (.slice (some ad) l0.length c0) (.slice none 0 0)).run Try.prog w = .ok (.bool false) w := fun _ => rfl
    go_enter Try.func94, Try.ntmps94
    go_wp2_with (first | ((with_reducible refine gate_dst (N := 5) rfl ?_); refine Kd.R_lit (Kd.int .i64) _ 3 ?hg (N := 5) ?hd (xs := ([] : List Int)) (inner := []) (ok := fun _ => True) (okp := fun _ => True) ?hr ?hp (fun _ hk => hk) trivial (Below.refl _ _) (Nat.le_refl _) (by simp) ?_; (case hd => rfl); (case hg => rfl); (case hr => first | (go_simp; done) | (go_simp; rfl)); (case hp => exact (Reps.none _ _)); intro v206 w3 ho4 hb hg_ hnew_; clear hg_ hnew_; (first | rw [← Ny205.out] at ho4 | (simp only [Int.reduceToNat] at ho4; rw [← Ny205.out] at ho4)); have n0_ := Aside0.mk (Kd.R_lower ho4 (Zs (by repeat (first | (with_reducible first | exact HB.out | apply Zj | apply Ze | apply Zi) | exact HB.out)))); have n1_ := Aside0.mk (Zu (by repeat (first | (with_reducible first | exact HB.out | apply Zj | apply Ze | apply Zi) | exact HB.out)) hb); clear HB; have HO207 := n0_; have HB := n1_; clear n0_ n1_; clear hb ho4) | ((with_reducible refine gate_builtin (b := .append) (xs := #[.tmp 5, .tmp 6]) rfl ?_); at_builtin; refine Kd.R_append_rows (Kd.int .i64) (w0 := w) w.heap.size rfl (.tmp 5) (.tmp 6) 31 3 (.int .i64 0) 8 rfl Try.underlying31 info3 rfl (by decide) (by omega) v206 y205 l0 _ _ _ (fun _ => True) (fun _ => False) rfl rfl ?aO ?aR (fun _ _ h => h) (fun _ h => h.elim) ?aF ?aB ?aS ?aL ?_; (case aR => repeat (first | exact (ZG HR0.out HB.out) | (with_reducible refine Zw ?_ _) | (with_reducible refine Zv ?_ _) | (with_reducible refine Zz ?_))); (case aB => exact (by repeat (first | (with_reducible first | exact HB.out | apply Zj | apply Ze | apply Zi) | exact HB.out))); (case aF => exact (fun _ _ => trivial)); (case aO => exact (by (with_reducible repeat (first | apply ZO | apply ZN | apply ZQ)); exact HO207.out)); (case aS => exact (Zs (by repeat (first | (with_reducible first | exact HB.out | apply Zj | apply Ze | apply Zi) | exact HB.out)))); (case aL => have := LMc2.out; omega); intro v209 w5 ho hb hg hat; rw [← Ny208.out] at ho; have n0_ := Aside0.mk (hb); have n1_ := Aside0.mk (ho); clear HB; clear HO207; have HB := n0_; have HO210 := n1_; clear n0_ n1_; clear ho hb hg hat))
    go_ret
    exact ⟨_, by first | rfl | (simp [errW_none, errW_some] <;> rfl) | (simp [*, errW_none, errW_some] <;> rfl), by (with_reducible repeat (first | apply ZO | apply ZN | apply ZQ)); exact HO210.out, by repeat (first | (with_reducible first | exact HB.out | apply Zj | apply Ze | apply Zi) | exact HB.out)⟩
  · rw [if_neg c2] at H
    exact absurd H (by simp)
set_option maxHeartbeats 8000000 in
set_option maxRecDepth 100000 in
theorem slices_Clone_int_int.none_ (c0 : Nat) (l0 : List Int) (r : List Int) (w : World) (hr0 : Kd.C (Kd.int .i64) w none l0.length l0) (hc0 : l0.length ≤ c0) (h : slices_Clone_int_int.f l0 = some r) :
    Calls Try.prog 94 #[.slice none l0.length c0] w fun e w' => ∃ v0_ : Value, e = .returned (v0_) ∧ Kd.R (Kd.int .i64) 3 w' w.heap.size (fun _ => True) v0_ r ∧ Below w.heap.size w w' := by
  have hl : l0 = [] := by
    cases l0 with
    | nil => rfl
    | cons x l1 =>
      obtain ⟨ad, e, _⟩ := ZI hr0 0 (Int.le_refl _) (by rw [List.length_cons]; omega)
      exact absurd e (by simp)
  subst hl
  have h : some ([] : List Int) = some r := by simpa [slices_Clone_int_int.f] using h
  have HR0 := Aside0.mk hr0
  have HC0 := Aside0.mk hc0
  clear hr0 hc0
  have HB := Aside0.mk (Below.refl w.heap.size w)
  have H : (some ([] : List Int)) = some r := h
  clear h
  obtain rfl := Option.some.inj H
  have he : ∀ w : World, (binOp .eql 31 (.slice none 0 c0) (.slice none 0 0)).run Try.prog w = .ok (.bool true) w := fun _ => rfl
  go_enter Try.func94, Try.ntmps94
  go_wp2
  go_ret
  exact ⟨_, by first | rfl | (simp [errW_none, errW_some] <;> rfl) | (simp [*, errW_none, errW_some] <;> rfl), by first | exact Kd.R_nil _ _ _ _ _ | exact Kd.N_nil _ _ _ _ _ | exact Kd.V_nil _ _ _ _ _ | exact Kd.Q_nil _ _ _ _ _ | exact Kd.S_nil _ _ _ _ _, by repeat (first | (with_reducible first | exact HB.out | apply Zj | apply Ze | apply Zi) | exact HB.out)⟩
set_option maxRecDepth 100000 in
theorem slices_Clone_int_int.calls (A0 : Option Addr) (c0 : Nat) (l0 : List Int) (r : List Int) (w : World) (hr0 : Kd.C (Kd.int .i64) w A0 l0.length l0) (hc0 : l0.length ≤ c0) (h : slices_Clone_int_int.f l0 = some r) :
    Calls Try.prog 94 #[.slice A0 l0.length c0] w fun e w' => ∃ v0_ : Value, e = .returned (v0_) ∧ Kd.R (Kd.int .i64) 3 w' w.heap.size (fun _ => True) v0_ r ∧ Below w.heap.size w w' := by
  cases A0 with
  | none => exact slices_Clone_int_int.none_ c0 l0 r w hr0 hc0 h
  | some ad => exact slices_Clone_int_int.some_ ad c0 l0 r w hr0 hc0 h

/-! ### impl_cloneGraph: function 91 -/
def impl_cloneGraph.l0 : Nat → List (List Int) → Int → Int → Int → List (List Int) → Option (Int × (List (List Int)))
 | 0, _, _, _, _, _ => none
 | k + 1, x11, x12, x13, x156000, x156001 => if x13 < x12 then (if 0 ≤ x13 then (if x13 < (x11.length : Int) then ((slices_Clone_int_int.f (rd_L1 x11 x13)).bind fun t157 => (if x156001.length < 5864062014805 then (impl_cloneGraph.l0 k x11 x12 (wrap64 (x13 + 1)) x156000 (x156001 ++ [t157])) else (none))) else (none)) else (none)) else (some (x156000, x156001))
def impl_cloneGraph.f (k : Nat) (a0_0 : Int) (l0_1 : List (List Int)) : Option (Int × (List (List Int))) := impl_cloneGraph.l0 k l0_1 (l0_1.length : Int) 0 a0_0 (([] : List (List Int)))
theorem impl_cloneGraph.mono_l : ∀ k, (∀ y0 y1 y2 y3 y4, LeO (impl_cloneGraph.l0 k y0 y1 y2 y3 y4) (impl_cloneGraph.l0 (k + 1) y0 y1 y2 y3 y4))
 | 0 => fun _ _ _ _ _ r h => by simp [impl_cloneGraph.l0] at h
 | k + 1 => by
  have ih0 := impl_cloneGraph.mono_l k
  ·intro y0 y1 y2 y3 y4
   unfold impl_cloneGraph.l0
   repeat' first
   | (with_reducible exact ih0 _ _ _ _ _)
   | (with_reducible exact LeO.refl _)
   | (with_reducible exact ZE _)
   | (with_reducible refine ZH ?_ ?_)
   | (with_reducible refine ZD ?_ (fun _ => ?_))
   | exact ih0 _ _ _ _ _
   | exact ZE _
   | refine ZH ?_ ?_
   | refine ZD ?_ (fun _ => ?_)
theorem impl_cloneGraph.mono : ∀ a0 a1 k, LeO (impl_cloneGraph.f k a0 a1) (impl_cloneGraph.f (k + 1) a0 a1) := by
 intro a0 a1 k
 have ih0 := impl_cloneGraph.mono_l k
 unfold impl_cloneGraph.f
 repeat' first
   | (with_reducible exact ih0 _ _ _ _ _)
   | (with_reducible exact LeO.refl _)
   | (with_reducible exact ZE _)
   | (with_reducible refine ZH ?_ ?_)
   | (with_reducible refine ZD ?_ (fun _ => ?_))
   | exact ih0 _ _ _ _ _
   | exact ZE _
   | refine ZH ?_ ?_
   | refine ZD ?_ (fun _ => ?_)
def impl_cloneGraph.T5 : Bool × List (List Nat × List Nat) := (true, [([], []), ([0], [0]), ([], []), ([2], [2]), ([3], [3]), ([1, 4, 3], [1, 4]), ([0, 1, 2, 3, 4, 5], []), ([6, 5, 5, 0, 1, 2, 3, 4, 5], [5, 6])])
def impl_cloneGraph.B5 : List Nat := [0, 1, 0, 4, 12, 31, 63, 127]
theorem impl_cloneGraph.tab5 : rtab .any (opsOf Try.f91 5) = impl_cloneGraph.T5 := by kernel_rfl
theorem impl_cloneGraph.bits5 : waitsOk impl_cloneGraph.T5.2 impl_cloneGraph.B5 = true := by kernel_rfl
set_option maxHeartbeats 8000000 in
set_option maxRecDepth 100000 in
theorem impl_cloneGraph.calls (k : Nat) (a0_0 : Int) (A0_1 : Option Addr) (c0_1 : Nat) (l0_1 : List (List Int)) (r1 : Int) (r2 : List (List Int)) (w : World) (hr0_1 : Kd.C (Kd.slice 3 (Kd.int .i64)) w A0_1 l0_1.length l0_1) (hc0_1 : l0_1.length ≤ c0_1) (h : impl_cloneGraph.f k a0_0 l0_1 = some (r1, r2)) :
  Calls Try.prog 91 #[.agg #[.int .i64 a0_0, .slice A0_1 l0_1.length c0_1]] w fun e w' => ∃ v1_ : Value, e = .returned (.agg #[.int .i64 r1, v1_]) ∧ Kd.S (Kd.slice 3 (Kd.int .i64)) 31 w' w.heap.size (fun _ => True) v1_ r2 ∧ Below w.heap.size w w' := by
 have hu27 := Try.underlying27
 have HR0_1 := Aside0.mk hr0_1
 have HC0_1 := Aside0.mk hc0_1
 clear hr0_1 hc0_1
 have HB := Aside0.mk (Below.refl w.heap.size w)
 have H : (impl_cloneGraph.l0 k l0_1 (l0_1.length : Int) 0 a0_0 (([] : List (List Int)))) = some (r1, r2) := h
 clear h
 obtain ⟨y152, hy152⟩ : ∃ y_ : List (List Int), y_ = (([] : List (List Int))) := ⟨_, rfl⟩
 replace H : (impl_cloneGraph.l0 k l0_1 (l0_1.length : Int) 0 a0_0 y152) = some (r1, r2) := by first | (rw [hy152]; with_reducible exact H) | (have H2_ := (Option.bind_some _ _).symm.trans H; rw [hy152]; with_reducible exact H2_) | (have H2_ := (Option.bind_some _ _).symm.trans H; with_reducible exact H2_) | with_reducible exact H | (rw [hy152]; exact H) | exact H
 have Ny152 := Aside0.mk hy152
 clear hy152
 have H' := Aside0.mk H
 clear H
 go_enter Try.func91, Try.ntmps91
 go_wp2_with (first | ((with_reducible refine gate_dst (N := 1) rfl ?_); refine box_event ?hg (N := 1) ?hd (cs := #[.int .i64 a0_0, .slice A0_1 l0_1.length c0_1]) (t := 27) ?hr ?_; (case hd => rfl); (case hg => rfl); (case hr => first | (go_simp; done) | (go_simp; rfl)); intro gb150 hg w2 hbox hb; have n0_ := Aside0.mk (Zu (by repeat (first | (with_reducible first | exact HB.out | apply Zj | apply Ze | apply Zi) | exact HB.out)) hb); have n1_ := Aside0.mk (hbox); have n2_ := Aside0.mk ((by rw [hg]; exact (Zs (by repeat (first | (with_reducible first | exact HB.out | apply Zj | apply Ze | apply Zi) | exact HB.out))) : w.heap.size ≤ gb150)); have n3_ := Aside0.mk ((by rw [hg]; exact (Zs (by repeat (first | (with_reducible first | exact HB.out | apply Zj | apply Ze | apply Zi) | exact HB.out))) : w.heap.size ≤ gb150)); clear HB; have HB := n0_; have BK150 := n1_; have GW150 := n2_; have GE150 := n3_; clear n0_ n1_ n2_ n3_; clear hb hbox hg) | ((with_reducible refine gate_dst (N := 2) rfl ?_); refine box_event ?hg (N := 2) ?hd (cs := #[.int .i64 0, .slice none 0 0]) (t := 27) ?hr ?_; (case hd => rfl); (case hg => rfl); (case hr => first | (go_simp; done) | (go_simp; rfl)); intro gb151 hg w3 hbox hb; have n0_ := Aside0.mk (Zp (g := gb150) (o := .cells #[.int .i64 a0_0, .slice A0_1 l0_1.length c0_1] 27 (0, 0)) (by (with_reducible repeat (first | refine Zg ?_ _ | refine Zh ?_ | refine Zf ?_ _)); exact BK150.out) hb); have n1_ := Aside0.mk (Zu (by repeat (first | (with_reducible first | exact HB.out | apply Zj | apply Ze | apply Zi | refine Zd ?_ GE150.out) | exact HB.out)) hb); have n2_ := Aside0.mk (hbox); have n3_ := Aside0.mk ((by rw [hg]; exact (Zs (by repeat (first | (with_reducible first | exact HB.out | apply Zj | apply Ze | apply Zi | refine Zd ?_ GE150.out) | exact HB.out))) : w.heap.size ≤ gb151)); have n4_ := Aside0.mk ((by rw [hg]; exact (Zs (by repeat (first | (with_reducible first | exact HB.out | apply Zj | apply Ze | apply Zi | refine Zd ?_ GE150.out) | exact HB.out))) : w.heap.size ≤ gb151)); have n5_ := Aside0.mk ((by rw [hg]; exact Nat.ne_of_lt (blk_lt (g := gb150) (o := .cells #[.int .i64 a0_0, .slice A0_1 l0_1.length c0_1] 27 (0, 0)) (by (with_reducible repeat (first | refine Zg ?_ _ | refine Zh ?_ | refine Zf ?_ _)); exact BK150.out)) : gb150 ≠ gb151)); have n6_ := Aside0.mk ((by rw [hg]; exact Nat.ne_of_gt (blk_lt (g := gb150) (o := .cells #[.int .i64 a0_0, .slice A0_1 l0_1.length c0_1] 27 (0, 0)) (by (with_reducible repeat (first | refine Zg ?_ _ | refine Zh ?_ | refine Zf ?_ _)); exact BK150.out)) : gb151 ≠ gb150)); clear BK150; clear HB; have BK150 := n0_; have HB := n1_; have BK151 := n2_; have GW151 := n3_; have GE151 := n4_; have NB150_151 := n5_; have NB151_150 := n6_; clear n0_ n1_ n2_ n3_ n4_ n5_ n6_; clear hb hbox hg; have hnb4 := NB150_151.out; have hnc4 := NB151_150.out; have hcz5_0 : w3.cell? ⟨gb150, 0, none⟩ = some (.int .i64 a0_0) := (Zk BK150.out 0).trans rfl; have hcz5_1 : w3.cell? ⟨gb150, 1, none⟩ = some (.slice A0_1 l0_1.length c0_1) := (Zk BK150.out 1).trans rfl; have hfz5_0 := Zl BK150.out 0; have hfz5_1 := Zl BK150.out 1) | ((with_reducible refine gate_dst (N := 8) rfl ?_); refine Kd.S_lit (Kd.slice 3 (Kd.int .i64)) _ 31 ?hg (N := 8) ?hd (xs := ([] : List (List Int))) (inner := []) (ok := fun _ => True) (okp := fun _ => True) ?hr ?hp (fun _ hk => hk) trivial (Below.refl _ _) (Nat.le_refl _) (by simp) ?_; (case hd => rfl); (case hg => rfl); (case hr => first | (go_simp; done) | (go_simp; rfl)); (case hp => exact (Reps.none _ _)); intro v153 w6 ho7 hb hg_ hnew_; clear hg_ hnew_; (first | rw [← Ny152.out] at ho7 | (simp only [Int.reduceToNat] at ho7; rw [← Ny152.out] at ho7)); have n0_ := Aside0.mk (Kd.S_lower ho7 (Zs (by repeat (first | (with_reducible first | exact HB.out | apply Zj | apply Ze | apply Zi | refine Zd ?_ GE150.out | refine Zd ?_ GE151.out) | exact HB.out)))); have n1_ := Aside0.mk (Zp (g := gb150) (o := .cells #[.int .i64 a0_0, .slice A0_1 l0_1.length c0_1] 27 (0, 0)) (by (with_reducible repeat (first | refine Zg ?_ _ | refine Zh ?_ | refine Zf ?_ _)); exact BK150.out) hb); have n2_ := Aside0.mk (Zp (g := gb151) (o := .cells #[.int .i64 0, .slice none 0 0] 27 (0, 0)) (by (with_reducible repeat (first | refine Zg ?_ _ | refine Zh ?_ | refine Zf ?_ _)); exact BK151.out) hb); have n3_ := Aside0.mk (Zu (by repeat (first | (with_reducible first | exact HB.out | apply Zj | apply Ze | apply Zi | refine Zd ?_ GE150.out | refine Zd ?_ GE151.out) | exact HB.out)) hb); clear BK150; clear BK151; clear HB; have HO154 := n0_; have BK150 := n1_; have BK151 := n2_; have HB := n3_; clear n0_ n1_ n2_ n3_; clear hb ho7; obtain ⟨Ao8, co8, eo8⟩ := Kd.S_slice HO154.out; subst eo8) | ((with_reducible refine gate_dst (N := 3) rfl ?_); refine box_event ?hg (N := 3) ?hd (cs := #[.int .i64 0, .slice none 0 0]) (t := 27) ?hr ?_; (case hd => rfl); (case hg => rfl); (case hr => first | (go_simp; done) | (go_simp; rfl)); intro gb155 hg w9 hbox hb; have n0_ := Aside0.mk (ZC (by (with_reducible repeat (first | apply Zn | apply Zm | apply Zo)); exact HO154.out) hb); have n1_ := Aside0.mk (Zp (g := gb150) (o := .cells #[.int .i64 a0_0, .slice A0_1 l0_1.length c0_1] 27 (0, 0)) (by (with_reducible repeat (first | refine Zg ?_ _ | refine Zh ?_ | refine Zf ?_ _)); exact BK150.out) hb); have n2_ := Aside0.mk (Zp (g := gb151) (o := .cells #[.int .i64 0, .slice none 0 0] 27 (0, 0)) (by (with_reducible repeat (first | refine Zg ?_ _ | refine Zh ?_ | refine Zf ?_ _)); exact BK151.out) hb); have n3_ := Aside0.mk (Zu (by repeat (first | (with_reducible first | exact HB.out | apply Zj | apply Ze | apply Zi | refine Zd ?_ GE150.out | refine Zd ?_ GE151.out) | exact HB.out)) hb); have n4_ := Aside0.mk (hbox); have n5_ := Aside0.mk ((by rw [hg]; exact (Zs (by repeat (first | (with_reducible first | exact HB.out | apply Zj | apply Ze | apply Zi | refine Zd ?_ GE150.out | refine Zd ?_ GE151.out) | exact HB.out))) : w.heap.size ≤ gb155)); have n6_ := Aside0.mk ((by rw [hg]; exact (Zs (by repeat (first | (with_reducible first | exact HB.out | apply Zj | apply Ze | apply Zi | refine Zd ?_ GE150.out | refine Zd ?_ GE151.out) | exact HB.out))) : w.heap.size ≤ gb155)); have n7_ := Aside0.mk ((by rw [hg]; exact Nat.ne_of_lt (blk_lt (g := gb150) (o := .cells #[.int .i64 a0_0, .slice A0_1 l0_1.length c0_1] 27 (0, 0)) (by (with_reducible repeat (first | refine Zg ?_ _ | refine Zh ?_ | refine Zf ?_ _)); exact BK150.out)) : gb150 ≠ gb155)); have n8_ := Aside0.mk ((by rw [hg]; exact Nat.ne_of_gt (blk_lt (g := gb150) (o := .cells #[.int .i64 a0_0, .slice A0_1 l0_1.length c0_1] 27 (0, 0)) (by (with_reducible repeat (first | refine Zg ?_ _ | refine Zh ?_ | refine Zf ?_ _)); exact BK150.out)) : gb155 ≠ gb150)); have n9_ := Aside0.mk ((by rw [hg]; exact Nat.ne_of_lt (blk_lt (g := gb151) (o := .cells #[.int .i64 0, .slice none 0 0] 27 (0, 0)) (by (with_reducible repeat (first | refine Zg ?_ _ | refine Zh ?_ | refine Zf ?_ _)); exact BK151.out)) : gb151 ≠ gb155)); have n10_ := Aside0.mk ((by rw [hg]; exact Nat.ne_of_gt (blk_lt (g := gb151) (o := .cells #[.int .i64 0, .slice none 0 0] 27 (0, 0)) (by (with_reducible repeat (first | refine Zg ?_ _ | refine Zh ?_ | refine Zf ?_ _)); exact BK151.out)) : gb155 ≠ gb151)); clear HO154; clear BK150; clear BK151; clear HB; have HO154 := n0_; have BK150 := n1_; have BK151 := n2_; have HB := n3_; have BK155 := n4_; have GW155 := n5_; have GE155 := n6_; have NB150_155 := n7_; have NB155_150 := n8_; have NB151_155 := n9_; have NB155_151 := n10_; clear n0_ n1_ n2_ n3_ n4_ n5_ n6_ n7_ n8_ n9_ n10_; clear hb hbox hg; have hnb10 := NB155_150.out; have hnc10 := NB150_155.out; have hnb11 := NB155_151.out; have hnc11 := NB151_155.out; have hcz12_0 : w9.cell? ⟨gb155, 0, none⟩ = some (.int .i64 0) := (Zk BK155.out 0).trans rfl; have hcz12_1 : w9.cell? ⟨gb155, 1, none⟩ = some (.slice none 0 0) := (Zk BK155.out 1).trans rfl; have hfz12_0 := Zl BK155.out 0; have hfz12_1 := Zl BK155.out 1; have hcz13_0 : w9.cell? ⟨gb150, 0, none⟩ = some (.int .i64 a0_0) := (Zk BK150.out 0).trans rfl; have hcz13_1 : w9.cell? ⟨gb150, 1, none⟩ = some (.slice A0_1 l0_1.length c0_1) := (Zk BK150.out 1).trans rfl; have hfz13_0 := Zl BK150.out 0; have hfz13_1 := Zl BK150.out 1))
 go_loopg [13] k (fun kq v13 w' => ∃ (x13_1 : Int) (x156001_1 : List (List Int)) (u156001 : Value), v13 = .int .i64 x13_1 ∧ Aside0 (impl_cloneGraph.l0 kq l0_1 (l0_1.length : Int) x13_1 a0_0 x156001_1 = some (r1, r2)) ∧ Aside0 (kq ≤ k) ∧ Aside0 (Kd.S (Kd.slice 3 (Kd.int .i64)) 31 w' w.heap.size (fun _ => True) u156001 x156001_1) ∧ Aside0 (w'.heap[gb150]? = some (.cells #[.int .i64 a0_0, (.slice A0_1 l0_1.length c0_1)] 27 (0, 0))) ∧ Aside0 (w'.heap[gb151]? = some (.cells #[.int .i64 0, (.slice none 0 0)] 27 (0, 0))) ∧ Aside0 (w'.heap[gb155]? = some (.cells #[.int .i64 a0_0, u156001] 27 (0, 0))) ∧ Aside0 (Below w.heap.size w w'))
 case atStart => exact ⟨(0), (y152), (.slice Ao8 y152.length co8), (by first | rfl | (simp; done) | (simp [*]; done)), H', ⟨Nat.le_refl _⟩, ⟨by (with_reducible repeat (first | apply Zn | apply Zm | apply Zo)); exact Zy (ZB (p := ⟨gb155, 1, none⟩) (ZB (p := ⟨gb155, 0, none⟩) (ZJ HO154.out BK155.out (by decide)) (fun _ hk => hk.2) (.int .i64 a0_0)) (fun _ hk => hk.2) (.slice Ao8 y152.length co8)) (fun _ hk => trivial)⟩, ⟨by (with_reducible repeat (first | refine Zg ?_ _ | refine Zh ?_ | refine Zf ?_ _)); refine ZP ?_ NB150_155.out _; (with_reducible repeat (first | refine Zg ?_ _ | refine Zh ?_ | refine Zf ?_ _)); refine ZP ?_ NB150_155.out _; (with_reducible repeat (first | refine Zg ?_ _ | refine Zh ?_ | refine Zf ?_ _)); exact BK150.out⟩, ⟨by (with_reducible repeat (first | refine Zg ?_ _ | refine Zh ?_ | refine Zf ?_ _)); refine ZP ?_ NB151_155.out _; (with_reducible repeat (first | refine Zg ?_ _ | refine Zh ?_ | refine Zf ?_ _)); refine ZP ?_ NB151_155.out _; (with_reducible repeat (first | refine Zg ?_ _ | refine Zh ?_ | refine Zf ?_ _)); exact BK151.out⟩, ⟨by (with_reducible repeat (first | refine Zg ?_ _ | refine Zh ?_ | refine Zf ?_ _)); refine blk_put (cs := #[.int .i64 a0_0, .slice none 0 0]) ?_ 1 _ rfl; (with_reducible repeat (first | refine Zg ?_ _ | refine Zh ?_ | refine Zf ?_ _)); refine blk_put (cs := #[.int .i64 0, .slice none 0 0]) ?_ 0 _ rfl; (with_reducible repeat (first | refine Zg ?_ _ | refine Zh ?_ | refine Zf ?_ _)); exact BK155.out⟩, ⟨by repeat (first | (with_reducible first | exact HB.out | apply Zj | apply Ze | apply Zi | refine Zd ?_ GE150.out | refine Zd ?_ GE151.out | refine Zd ?_ GE155.out) | exact HB.out)⟩⟩
 case round =>
  clear H'
  try clear c1
  try clear p2
  try clear c4
  try clear c9
  try clear c10
  try clear c11
  try clear hcz12_0
  try clear hcz12_1
  try clear hcz13_0
  try clear hcz13_1
  try clear hcz5_0
  try clear hcz5_1
  try clear hfz12_0
  try clear hfz12_1
  try clear hfz13_0
  try clear hfz13_1
  try clear hfz5_0
  try clear hfz5_1
  obtain ⟨x13_1, x156001_1, u156001, rfl, HA, HK1, HO_156001, BK150, BK151, BK155, HB⟩ := hrel
  cases gk with
  | zero => exact absurd HA.out (by simp [impl_cloneGraph.l0])
  | succ k1 =>
   have H := HA.out
   clear HA
   simp only [impl_cloneGraph.l0] at H
   by_cases c14 : x13_1 < (l0_1.length : Int)
   ·rw [if_pos c14] at H
    have c14b0 : decide (x13_1 < (l0_1.length : Int)) = true := decide_eq_true c14
    clear c14
    by_cases c15 : 0 ≤ x13_1
    ·rw [if_pos c15] at H
     have c15b0 : decide (0 ≤ x13_1) = true := decide_eq_true c15
     clear c15
     by_cases c16 : x13_1 < (l0_1.length : Int)
     ·rw [if_pos c16] at H
      have c16b0 : decide (x13_1 < (l0_1.length : Int)) = true := decide_eq_true c16
      clear c16
      replace H := Option.bind_eq_some_iff.mp H
      obtain ⟨t157, A170, H⟩ := H
      replace H : (if x156001_1.length < 5864062014805 then (impl_cloneGraph.l0 k1 l0_1 (l0_1.length : Int) (wrap64 (x13_1 + 1)) a0_0 (x156001_1 ++ [t157])) else (none)) = some (r1, r2) := H
      have A17 := Aside0.mk A170
      clear A170
      by_cases c18 : x156001_1.length < 5864062014805
      ·rw [if_pos c18] at H
       have LMc18 := Aside0.mk c18
       clear c18
       obtain ⟨y160, hy160⟩ : ∃ y_ : List (List Int), y_ = (x156001_1 ++ [t157]) := ⟨_, rfl⟩
       replace H : (impl_cloneGraph.l0 k1 l0_1 (l0_1.length : Int) (wrap64 (x13_1 + 1)) a0_0 y160) = some (r1, r2) := by first | (rw [hy160]; with_reducible exact H) | (have H2_ := (Option.bind_some _ _).symm.trans H; rw [hy160]; with_reducible exact H2_) | (have H2_ := (Option.bind_some _ _).symm.trans H; with_reducible exact H2_) | with_reducible exact H | (rw [hy160]; exact H) | exact H
       have Ny160 := Aside0.mk hy160
       clear hy160
       have H' := Aside0.mk H
       clear H
       have p156 : 0 ≤ (x13_1 : Int) := of_decide_eq_true (by first | (with_reducible assumption) | assumption)
       have q156 : x13_1 < (l0_1.length : Int) := of_decide_eq_true (by first | (with_reducible assumption) | assumption)
       obtain ⟨ad156, A156_0, c156_0, e156, hx156_0, hl156_0, hi156_0⟩ := at_L1 HR0_1.out x13_1 p156 q156
       cases e156
       replace hx156_0 := (HB.out.cell (World.block_lt_of_cell? w _ hx156_0)).trans hx156_0
       have HR156_0 := Aside0.mk hi156_0
       have HC156_0 := Aside0.mk hl156_0
       clear hi156_0 hl156_0
       replace p156 := eq_true p156
       replace q156 := eq_true q156
       try go_wp2
       have n0_ := Aside0.mk (Zo HO_156001.out)
       have n1_ := Aside0.mk (Zh BK150.out)
       have n2_ := Aside0.mk (Zh BK151.out)
       have n3_ := Aside0.mk (Zh BK155.out)
       have n4_ := Aside0.mk (Zi HB.out)
       clear HO_156001
       clear BK150
       clear BK151
       clear BK155
       clear HB
       have HO_156001 := n0_
       have BK150 := n1_
       have BK151 := n2_
       have BK155 := n3_
       have HB := n4_
       clear n0_ n1_ n2_ n3_ n4_
       refine start_ (n := 8) (S := fun w' => w'.cell? ⟨gb155, 0, none⟩ = some (.int .i64 a0_0) ∧ w'.cell? ⟨gb155, 1, none⟩ = some (u156001)) (ds := [7]) #[O,O,O,O,O,O,O,O] (by kernel_rfl) rfl rfl ⟨(Zk BK155.out 0).trans rfl, (Zk BK155.out 1).trans rfl⟩ (fun hHeld => ?_); refine with_tabW impl_cloneGraph.tab5 impl_cloneGraph.bits5 (fun HT_ HW_ => ?_)
       generalize wr.drew = w19 at HO_156001 BK150 BK151 BK155 HB hHeld ⊢
       refine Zx (i := 0) (N := some 17) (v := ?_) (a' := ?_) #[Y,O,O,O,O,O,O,O] rfl rfl (Zt HT_.out (by kernel_rfl)) (fun _ _ _ h => h) (Or.inl ⟨by rfl, ?_⟩) ?_ ?_
       rotate_left
       ·intro w'
        go_simp
        with_reducible rfl
       rotate_left
       ·simp only [Act.put, Za, Zb, Zc, Zq, Zr]
        rfl
       refine Zx (i := 2) (N := some 19) (v := ?_) (a' := ?_) #[Y,O,Y,O,O,O,O,O] rfl rfl (Zt HT_.out (by kernel_rfl)) (fun _ _ _ h => h) (Or.inl ⟨by rfl, ?_⟩) ?_ ?_
       rotate_left
       ·intro w'
        go_simp
        with_reducible rfl
       rotate_left
       ·simp only [Act.put, Za, Zb, Zc, Zq, Zr]
        rfl
       refine take_ (i := 1) (N := some 18) (v := ?_) (a' := ?_) #[Y,Y,Y,O,O,O,O,O] rfl rfl (take_ofW HT_.out HW_.out (by kernel_rfl)) (fun _ _ _ h => h) (Or.inl ⟨by rfl, ?_⟩) hHeld ?_ ?_
       rotate_left
       ·rintro w' ⟨s0, s1⟩
        go_simp
        with_reducible rfl
       rotate_left
       ·simp only [Act.put, Za, Zb, Zc, Zq, Zr]
        rfl
       refine one_ (i := 3) (N := some 20) #[Y,Y,Y,Y,O,O,O,O] rfl rfl (one_of HT_.out (by kernel_rfl)) (by decide) (fun K hK => ?_)
       refine goes_ Try.func94 (by kernel_rfl) rfl #[.slice A156_0 (rd_L1 l0_1 x13_1).length c156_0] (by rfl) rfl rfl (by (try simp only [List.map_toArray, List.map_cons, List.map_nil]); first | done | rfl | (simp only [List.length_drop, List.length_take]; rfl)) ?_
       with_reducible refine (slices_Clone_int_int.calls _ _ (rd_L1 l0_1 x13_1) t157 _ ?side1 ?side2 A17.out).mono ?_
       (case side1 => repeat (first | exact (ZG HR156_0.out HB.out) | (with_reducible refine Zw ?_ _) | (with_reducible refine Zv ?_ _) | (with_reducible refine Zz ?_)))
       (case side2 => exact HC156_0.out)
       rintro e w20 ⟨v158, rfl, ho0, hb⟩
       refine ⟨_, rfl, ?_⟩
       have n0_ := Aside0.mk (ZK (by (with_reducible repeat (first | apply Zn | apply Zm | apply Zo)); exact HO_156001.out) (Kd.R_base ho0) hb)
       have n1_ := Aside0.mk (Kd.R_lower ho0 (Zs (by repeat (first | (with_reducible first | exact HB.out | apply Zj | apply Ze | apply Zi | refine Zd ?_ GE150.out | refine Zd ?_ GE151.out | refine Zd ?_ GE155.out) | exact HB.out))))
       have n2_ := Aside0.mk (Zp (g := gb150) (o := .cells #[.int .i64 a0_0, .slice (some ad156) l0_1.length c0_1] 27 (0, 0)) (by (with_reducible repeat (first | refine Zg ?_ _ | refine Zh ?_ | refine Zf ?_ _)); exact BK150.out) hb)
       have n3_ := Aside0.mk (Zp (g := gb151) (o := .cells #[.int .i64 0, .slice none 0 0] 27 (0, 0)) (by (with_reducible repeat (first | refine Zg ?_ _ | refine Zh ?_ | refine Zf ?_ _)); exact BK151.out) hb)
       have n4_ := Aside0.mk (Zp (g := gb155) (o := .cells #[.int .i64 a0_0, u156001] 27 (0, 0)) (by (with_reducible repeat (first | refine Zg ?_ _ | refine Zh ?_ | refine Zf ?_ _)); exact BK155.out) hb)
       have n5_ := Aside0.mk (Zu (by repeat (first | (with_reducible first | exact HB.out | apply Zj | apply Ze | apply Zi | refine Zd ?_ GE150.out | refine Zd ?_ GE151.out | refine Zd ?_ GE155.out) | exact HB.out)) hb)
       clear HO_156001
       clear BK150
       clear BK151
       clear BK155
       clear HB
       have HO_156001 := n0_
       have HO159 := n1_
       have BK150 := n2_
       have BK151 := n3_
       have BK155 := n4_
       have HB := n5_
       clear n0_ n1_ n2_ n3_ n4_ n5_
       (try clear hb)
       (try clear hb2)
       (try clear hk)
       (try clear hi)
       (try clear ho0)
       obtain ⟨Ao22, co22, eo22⟩ := Kd.R_slice HO159.out
       (first | subst eo22 | (injection eo22 with f1_ f2_ f3_; have f4_ := f1_.symm; have f5_ := f3_.symm; clear f1_ f2_ f3_; subst f4_; subst f5_))
       refine hK.out _ _ ⟨(Zk BK155.out 0).trans rfl, (Zk BK155.out 1).trans rfl⟩ (fun hHeld => ?_)
       clear hK K
       refine norm_ (a' := ?_) ?_ ?_
       rotate_left
       ·show Act.put _ (some 20) _ = _
        simp only [Act.put, Za, Zb, Zc, Zq, Zr]
        rfl
       refine one_ (i := 4) (N := some 21) #[Y,Y,Y,Y,Y,O,O,O] rfl rfl (one_of HT_.out (by kernel_rfl)) (by decide) (fun K hK => ?_)
       refine value_ (w1 := ?_) (v := ?_) (by rfl) rfl ?_ ?_
       rotate_left 2
       ·go_simp
        constructor
        ·rfl
        ·rfl
       refine hK.out _ _ ⟨(Zk (Zf BK155.out _) 0).trans rfl, (Zk (Zf BK155.out _) 1).trans rfl⟩ (fun hHeld => ?_)
       clear hK K
       refine norm_ (a' := ?_) ?_ ?_
       rotate_left
       ·show Act.put _ (some 21) _ = _
        simp only [Act.put, Za, Zb, Zc, Zq, Zr]
        rfl
       refine one_ (i := 5) (N := some 22) #[Y,Y,Y,Y,Y,Y,O,O] rfl rfl (one_of HT_.out (by kernel_rfl)) (by decide) (fun K hK => ?_)
       refine Kd.S_append_step (Kd.slice 3 (Kd.int .i64)) (w0 := w) w.heap.size (by rfl) (.tmp 18) (.tmp 21) 22 31 (.slice none 0 0) 24 rfl Try.underlying22 info31 rfl (by decide) (by omega) u156001 x156001_1 t157 [.slice Ao22 t157.length co22] (fun _ => True) (fun k_ => some k_ = (.slice Ao22 t157.length co22 : Value).ownBlock) rfl rfl ?aP (fun k_ hk_ => ((ZR (ok' := fun k_ => ((fun _ => True)) k_ ∧ some k_ ≠ (u156001 : Value).ownBlock) (Kd.R_apart' (HO159.out) (Kd.S_typed HO_156001.out) (by decide)) (fun k_ hk => ⟨trivial, hk.2⟩))).1 k_ hk_.symm) ?aF ?aO ?aB ?aS ?aL ?_
       (case aP => exact Kd.M_row (ZR (Kd.R_tight rfl (ZR (ok' := fun k_ => ((fun _ => True)) k_ ∧ some k_ ≠ (u156001 : Value).ownBlock) (Kd.R_apart' (HO159.out) (Kd.S_typed HO_156001.out) (by decide)) (fun k_ hk => ⟨trivial, hk.2⟩))) (fun _ h_ => h_)))
       (case aB => exact (by repeat (first | (with_reducible first | exact HB.out | apply Zj | apply Ze | apply Zi | refine Zd ?_ GE150.out | refine Zd ?_ GE151.out | refine Zd ?_ GE155.out) | exact HB.out)))
       (case aF => exact (fun _ _ => trivial))
       (case aO => exact (by (with_reducible repeat (first | apply Zn | apply Zm | apply Zo)); exact Zy HO_156001.out (fun k_ hk => ⟨trivial, fun e_ => hk.2 e_⟩)))
       (case aS => exact (Zs (by repeat (first | (with_reducible first | exact HB.out | apply Zj | apply Ze | apply Zi | refine Zd ?_ GE150.out | refine Zd ?_ GE151.out | refine Zd ?_ GE155.out) | exact HB.out))))
       (case aL => have := LMc18.out; omega)
       intro v161 w21 ho hb hg hat
       rw [← Ny160.out] at ho
       have n0_ := Aside0.mk (ZS (g := gb150) (o := .cells #[.int .i64 a0_0, .slice (some ad156) l0_1.length c0_1] 27 (0, 0)) (by (with_reducible repeat (first | refine Zg ?_ _ | refine Zh ?_ | refine Zf ?_ _)); exact BK150.out) hg (Kd.S_ne HO_156001.out BK150.out (by decide)))
       have n1_ := Aside0.mk (ZS (g := gb151) (o := .cells #[.int .i64 0, .slice none 0 0] 27 (0, 0)) (by (with_reducible repeat (first | refine Zg ?_ _ | refine Zh ?_ | refine Zf ?_ _)); exact BK151.out) hg (Kd.S_ne HO_156001.out BK151.out (by decide)))
       have n2_ := Aside0.mk (ZS (g := gb155) (o := .cells #[.int .i64 a0_0, u156001] 27 (0, 0)) (by (with_reducible repeat (first | refine Zg ?_ _ | refine Zh ?_ | refine Zf ?_ _)); exact BK155.out) hg (Kd.S_ne HO_156001.out BK155.out (by decide)))
       have n3_ := Aside0.mk (hb)
       have n4_ := Aside0.mk (ho)
       clear BK150
       clear BK151
       clear BK155
       clear HB
       clear HO_156001
       clear HO159
       have BK150 := n0_
       have BK151 := n1_
       have BK155 := n2_
       have HB := n3_
       have HO162 := n4_
       clear n0_ n1_ n2_ n3_ n4_
       clear ho hb hg hat
       obtain ⟨Ao23, co23, eo23⟩ := Kd.S_slice HO162.out
       (first | subst eo23 | (injection eo23 with f1_ f2_ f3_; have f4_ := f1_.symm; have f5_ := f3_.symm; clear f1_ f2_ f3_; subst f4_; subst f5_))
       refine hK.out _ _ ⟨(Zk BK155.out 0).trans rfl, (Zk BK155.out 1).trans rfl⟩ (fun hHeld => ?_)
       clear hK K
       refine norm_ (a' := ?_) ?_ ?_
       rotate_left
       ·show Act.put _ (some 22) _ = _
        simp only [Act.put, Za, Zb, Zc, Zq, Zr]
        rfl
       refine Zx (i := 6) (N := some 23) (v := ?_) (a' := ?_) #[Y,Y,Y,Y,Y,Y,Y,O] rfl rfl (Zt HT_.out (by kernel_rfl)) (fun _ _ _ h => h) (Or.inl ⟨by rfl, ?_⟩) ?_ ?_
       rotate_left
       ·intro w'
        go_simp
        with_reducible rfl
       rotate_left
       ·simp only [Act.put, Za, Zb, Zc, Zq, Zr]
        rfl
       refine last_ (i := 7) (N := none) #[Y,Y,Y,Y,Y,Y,Y,Y] rfl rfl (one_of HT_.out (by kernel_rfl)) (by decide) (fun K hK => ?_)
       have hs24 : w21.cell? ⟨gb155, 1, none⟩ = some (u156001) := (Zk BK155.out 1).trans rfl
       have hfs24 := Zl BK155.out 1
       have hns24_0 := NB150_155.out
       have hns24_1 := NB151_155.out
       have hms24_0 := NB155_150.out
       have hms24_1 := NB155_151.out
       refine skip_ (w1 := ?_) (by rfl) rfl ?_ ?_
       rotate_left
       ·go_simp
        rfl
       refine hK.out _ _ ?_
       clear hK K
       refine done_ (done_of HT_.out (by kernel_rfl)) ?_
       try go_wp2
       go_roundg k1
       case measure => have := HK1.out; omega
       case rel => exact ⟨(wrap64 (x13_1 + 1)), (y160), (.slice Ao23 y160.length co23), (by first | rfl | (simp; done) | (simp [*]; done)), H', ⟨by have := HK1.out; omega⟩, ⟨by (with_reducible repeat (first | apply Zn | apply Zm | apply Zo)); exact Zy (ZB (p := ⟨gb155, 1, none⟩) (ZJ HO162.out BK155.out (by decide)) (fun _ hk => hk.2) (.slice Ao23 y160.length co23)) (fun _ hk => trivial)⟩, ⟨by (with_reducible repeat (first | refine Zg ?_ _ | refine Zh ?_ | refine Zf ?_ _)); refine ZP ?_ NB150_155.out _; (with_reducible repeat (first | refine Zg ?_ _ | refine Zh ?_ | refine Zf ?_ _)); exact BK150.out⟩, ⟨by (with_reducible repeat (first | refine Zg ?_ _ | refine Zh ?_ | refine Zf ?_ _)); refine ZP ?_ NB151_155.out _; (with_reducible repeat (first | refine Zg ?_ _ | refine Zh ?_ | refine Zf ?_ _)); exact BK151.out⟩, ⟨by (with_reducible repeat (first | refine Zg ?_ _ | refine Zh ?_ | refine Zf ?_ _)); refine blk_put (cs := #[.int .i64 a0_0, u156001]) ?_ 1 _ rfl; (with_reducible repeat (first | refine Zg ?_ _ | refine Zh ?_ | refine Zf ?_ _)); exact BK155.out⟩, ⟨by repeat (first | (with_reducible first | exact HB.out | apply Zj | apply Ze | apply Zi | refine Zd ?_ GE150.out | refine Zd ?_ GE151.out | refine Zd ?_ GE155.out) | exact HB.out)⟩⟩
      ·rw [if_neg c18] at H
       exact absurd H (by simp)
     ·rw [if_neg c16] at H
      exact absurd H (by simp)
    ·rw [if_neg c15] at H
     exact absurd H (by simp)
   ·rw [if_neg c14] at H
    have c14b0 : decide (x13_1 < (l0_1.length : Int)) = false := decide_eq_false c14
    clear c14
    simp only [Option.some.injEq, Prod.mk.injEq] at H
    obtain ⟨rfl, rfl⟩ := H
    have hnb25 := NB155_150.out
    have hnc25 := NB150_155.out
    have hnb26 := NB155_151.out
    have hnc26 := NB151_155.out
    have hcz27_0 : wr.cell? ⟨gb155, 0, none⟩ = some (.int .i64 a0_0) := (Zk BK155.out 0).trans rfl
    have hcz27_1 : wr.cell? ⟨gb155, 1, none⟩ = some (u156001) := (Zk BK155.out 1).trans rfl
    have hfz27_0 := Zl BK155.out 0
    have hfz27_1 := Zl BK155.out 1
    have hnb28 := NB151_150.out
    have hnc28 := NB150_151.out
    have hcz29_0 : wr.cell? ⟨gb151, 0, none⟩ = some (.int .i64 0) := (Zk BK151.out 0).trans rfl
    have hcz29_1 : wr.cell? ⟨gb151, 1, none⟩ = some (.slice none 0 0) := (Zk BK151.out 1).trans rfl
    have hfz29_0 := Zl BK151.out 0
    have hfz29_1 := Zl BK151.out 1
    obtain ⟨Ao30, co30, eo30⟩ := Kd.S_slice HO_156001.out
    subst eo30
    go_wp2
    refine bodyPost_ret (results_cell_row rfl _ _ gb151 27 #[.int .i64 a0_0, .slice Ao30 x156001_1.length co30] (0, 0) _ rfl (by (with_reducible repeat (first | refine Zg ?_ _ | refine Zh ?_ | refine Zf ?_ _)); refine blk_put (cs := #[.int .i64 a0_0, .slice none 0 0]) ?_ 1 _ rfl; (with_reducible repeat (first | refine Zg ?_ _ | refine Zh ?_ | refine Zf ?_ _)); refine blk_put (cs := #[.int .i64 0, .slice none 0 0]) ?_ 0 _ rfl; (with_reducible repeat (first | refine Zg ?_ _ | refine Zh ?_ | refine Zf ?_ _)); exact BK151.out) Try.underlying27 rfl (by kernel_rfl)) rfl ?_
    exact ⟨_, by first | rfl | (simp [errW_none, errW_some] <;> rfl) | (simp [*, errW_none, errW_some] <;> rfl), by (with_reducible repeat (first | apply Zn | apply Zm | apply Zo)); exact Zy (ZB (p := ⟨gb151, 1, none⟩) (ZB (p := ⟨gb151, 0, none⟩) (ZJ HO_156001.out BK151.out (by decide)) (fun _ hk => hk.2) (.int .i64 a0_0)) (fun _ hk => hk.2) (.slice Ao30 x156001_1.length co30)) (fun _ hk => trivial), by repeat (first | (with_reducible first | exact HB.out | apply Zj | apply Ze | apply Zi | refine Zd ?_ GE150.out | refine Zd ?_ GE151.out | refine Zd ?_ GE155.out) | exact HB.out)⟩

end Go.Proofs.Ytdlobolnajcfnaa.PFnExactRenamed
