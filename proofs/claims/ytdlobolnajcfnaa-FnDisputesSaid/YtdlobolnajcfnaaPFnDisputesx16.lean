-- Written by a program of this session (hooks of mine on the print): Lean checks it.
import Derived.Test.YtdlobolnajcfnaaPFnDisputesx0
import Derived.Test.YtdlobolnajcfnaaPFnDisputesx1
namespace Go.Proofs.Ytdlobolnajcfnaa.PFnDisputes
open Go.RowKit Go.Proofs.YtdlobolnajcfnaaW.PrintWords Go.Proofs.YtdlobolnajcfnaaW.PrintLast Go.Proofs.YtdlobolnajcfnaaW.PrintMore
attribute [local go_sem] max2_int min2_int max_two min_two max_three min_three max_four min_four   -- for this text's walks alone
set_option linter.unusedVariables false
set_option linter.unusedSimpArgs false

/-! ### slices_SortFunc_int_int: function 66 -/
/-- slices.SortFunc of rows by slices.Compare: the row holds the same rows, in order. -/
def cmpR (x y : List Int) : Int := if x < y then -1 else if y < x then 1 else 0
def sortR (l : List (List Int)) : List (List Int) := l.mergeSort fun x y => decide (¬ y < x)
theorem sortR_len (l : List (List Int)) : (sortR l).length = l.length := List.length_mergeSort ..
def slices_SortFunc_int_int.f (k : Nat) (l0 : List (List Int)) (a1 : Nat) : Option (List (List Int)) := if a1 = 67 ∧ l0.length < 4611686018427387904 ∧ ∀ x ∈ l0, ∀ y ∈ l0, slices_Compare_int_int.f k x y = some (cmpR x y) then some (sortR l0) else none
theorem slices_SortFunc_int_int.mono : ∀ a0 a1 k, LeO (slices_SortFunc_int_int.f k a0 a1) (slices_SortFunc_int_int.f (k + 1) a0 a1) := by
  intro a0 a1 k r h
  unfold slices_SortFunc_int_int.f at h ⊢
  by_cases c : a1 = 67 ∧ a0.length < 4611686018427387904 ∧ ∀ x ∈ a0, ∀ y ∈ a0, slices_Compare_int_int.f k x y = some (cmpR x y)
  rotate_left
  ·rw [if_neg c] at h
   cases h
  rw [if_pos c] at h
  rw [if_pos ⟨c.1, c.2.1, fun x hx y hy => slices_Compare_int_int.mono _ _ _ _ (c.2.2 x hx y hy)⟩]
  exact h
section
variable {α : Type} [Inhabited α] {enc : α → Value}
theorem heap_sortedE {w : World} {g n : Nat} {os : Array Obj} {cur : Array Value} {e : TypeId} {fr : Nat × Nat} (d : Array α) (hb : w.heap[g]? = some (.cells cur e fr)) : (sortWorld enc w g 0 n d os).heap[g]? = some (.cells (Go.Sort.putCells enc 0 d cur) e fr) := by
  have hg : g < w.heap.size := (Array.getElem?_eq_some_iff.1 hb).1
  unfold sortWorld
  rw [Go.Sort.heap_grow_old _ _ (by simpa using hg)]
  simp [Go.Sort.putRow, Go.Sort.mapBlock, Go.Sort.ahead, Array.getElem?_modify, hb, Go.Sort.onCells]
theorem grownBy_sortedE {w : World} {g n : Nat} {os : Array Obj} (d : Array α) : w.grownBy (sortWorld enc w g 0 n d os) (some g) := by
  refine ⟨rfl, rfl, rfl, by simp [sortWorld], fun k hk hne => ?_⟩
  unfold sortWorld
  rw [Go.Sort.heap_grow_old _ _ (by simpa using hk)]
  have : g ≠ k := fun e => hne (by rw [e])
  simp [Go.Sort.putRow, Go.Sort.mapBlock, Go.Sort.ahead, Array.getElem?_modify, this]
theorem take_putCellsE (cur : Array Value) (ts : Array α) (h : ts.size ≤ cur.size) : (Go.Sort.putCells enc 0 ts cur).toList.take ts.size = ts.toList.map enc := by
  apply List.ext_getElem?
  intro j
  by_cases hj : j < ts.size
  ·rw [List.getElem?_take_of_lt hj, Array.getElem?_toList]
   simp [Go.Sort.putCells, hj, show j < cur.size by omega]
  rw [List.getElem?_take_eq_none (by omega), List.getElem?_eq_none (by simp; omega)]
end
theorem cmpR_lt (x y : List Int) : cmpR x y < 0 ↔ x < y := by
  unfold cmpR
  by_cases h : x < y
  ·rw [if_pos h]; exact ⟨fun _ => h, fun _ => by decide⟩
  rw [if_neg h]
  refine ⟨fun h2 => ?_, fun h2 => absurd h2 h⟩
  split at h2 <;> omega
theorem drop_take_one {β : Type} (l : List β) (j : Nat) (v : β) (h : l[j]? = some v) : (l.drop (j * 1)).take 1 = [v] := by
  obtain ⟨hj, e⟩ := List.getElem?_eq_some_iff.1 h
  rw [Nat.mul_one, List.drop_eq_getElem_cons hj, e, List.take_succ_cons, List.take_zero]
/-- Sorting the places of a row's elements sorts the row. -/
theorem sort_places {n : Nat} (l : List (List Int)) (hn : n = l.length) (h0 : 0 < n) (d' : List (Fin n)) (hp : d'.Perm (List.finRange n)) (hs : d'.Pairwise fun i j => ¬ l.getD j.val [] < l.getD i.val []) : d'.map (fun i => l.getD i.val []) = sortR l := by
  subst hn
  have hl : (List.finRange l.length).map (fun i => l.getD i.val []) = l := by
    apply List.ext_getElem (by simp)
    intro i h1 h2
    simp
  have h1 : (d'.map (fun i => l.getD i.val [])).Perm (sortR l) := by
    refine (hp.map _).trans ?_
    rw [hl]
    exact (List.mergeSort_perm l _).symm
  refine List.Perm.eq_of_pairwise (le := fun x y => ¬ y < x) ?_ ?_ ?_ h1
  ·intro a b _ _ hab hba
   exact List.le_antisymm hab hba
  ·rw [List.pairwise_map]
   exact hs
  have := List.pairwise_mergeSort (le := fun x y : List Int => decide (¬ y < x)) (fun a b c h1 h2 => by
    rw [decide_eq_true_eq] at h1 h2 ⊢
    exact List.le_trans h1 h2) (fun a b => by
    rw [Bool.or_eq_true, decide_eq_true_eq, decide_eq_true_eq]
    exact List.le_total a b) l
  refine List.Pairwise.imp ?_ this
  intro a b h
  exact of_decide_eq_true h
set_option maxHeartbeats 8000000 in
set_option maxRecDepth 100000 in
theorem slices_SortFunc_int_int.calls (k : Nat) (P0_ : Nat → Prop) (u9000_ : Value) (l0 : List (List Int)) (a1 : Nat) (r1 : List (List Int)) (w0 w : World) (hB : Below w0.heap.size w0 w) (ho0 : Kd.S (Kd.slice 3 (Kd.int .i64)) 31 w w0.heap.size P0_ u9000_ l0) (h : slices_SortFunc_int_int.f k l0 a1 = some r1) :
    Calls Try.prog 66 #[u9000_, .func (.func a1) #[] #[]] w fun e w' => e = .returned (.tuple #[]) ∧ Kd.S (Kd.slice 3 (Kd.int .i64)) 31 w' w0.heap.size P0_ u9000_ r1 ∧ Below w0.heap.size w0 w' ∧ Kept w w' (fun k_ => some k_ = (u9000_ : Value).ownBlock) := by
  unfold slices_SortFunc_int_int.f at h
  by_cases c : a1 = 67 ∧ l0.length < 4611686018427387904 ∧ ∀ x ∈ l0, ∀ y ∈ l0, slices_Compare_int_int.f k x y = some (cmpR x y)
  rotate_left
  ·rw [if_neg c] at h
   cases h
  rw [if_pos c] at h
  obtain rfl := Option.some.inj h
  clear h
  obtain ⟨rfl, hlen, hcmp⟩ := c
  have hS := ho0
  obtain ⟨f, h0, inner, ho, hr⟩ := ho0
  rw [List.length_zipIdx] at ho
  by_cases hpos : 0 < l0.length
  rotate_left
  ·obtain rfl := List.eq_nil_of_length_eq_zero (show l0.length = 0 by omega)
   obtain ⟨A, c, hv⟩ := own_slice ho
   subst hv
   refine (YtdlobolnajcfnaaSh.sortf_none A c _ w).mono ?_
   rintro e w' ⟨rfl, rfl⟩
   exact ⟨rfl, by rw [show sortR [] = [] by simp [sortR]]; exact hS, hB, Kept.refl _ _⟩
  obtain ⟨hil, hv⟩ := ho
  rcases hv with ⟨_, hz⟩ | ⟨g, cap, cur, rfl, hbg, hh, hnc, hcm, hcs, ht⟩
  ·omega
  have hgl : g < w.heap.size := (Array.getElem?_eq_some_iff.1 hh).1
  rw [show (Kd.tag f (Kd.slice 3 (Kd.int .i64))).sz = 1 from rfl] at hil hcs ht hr
  rw [Nat.mul_one] at hil hcs ht
  have hil2 : inner.length = l0.length := hil
  clear hS hil
  generalize hN : l0.length = n at hpos hlen hil2 hnc ht h0 hr ⊢
  have : Inhabited (Fin n) := ⟨⟨0, hpos⟩⟩
  have hin : ∀ i : Fin n, inner[i.val]? = some (inner.getD i.val (.int .i64 0)) := fun i => by
    rw [List.getD_eq_getElem?_getD, List.getElem?_eq_getElem (by omega)]
    rfl
  have hli : ∀ i : Fin n, l0[i.val]? = some (l0.getD i.val []) := fun i => by
    rw [List.getD_eq_getElem?_getD, List.getElem?_eq_getElem (by omega)]
    rfl
  have hM : ∀ i : Fin n, (Kd.slice 3 (Kd.int .i64)).M w w0.heap.size (fun k_ => (P0_ k_ ∧ some k_ ≠ (Value.slice (some ⟨g, 0, none⟩) n cap).ownBlock) ∧ f k_ = i.val) (l0.getD i.val []) [inner.getD i.val (.int .i64 0)] := fun i => by
    have h1 := hr.2 i.val _ (Kd.zip_at (hli i))
    rw [drop_take_one inner i.val _ (hin i)] at h1
    exact h1
  let enc : Fin n → Value := fun i => inner.getD i.val (.int .i64 0)
  have hone : OneCell enc := fun i => by
    obtain ⟨v, hv, hR⟩ := hM i
    have hv2 : inner.getD i.val (.int .i64 0) = v := by injection hv
    show (inner.getD i.val (.int .i64 0)).oneCell' = true
    rw [hv2]
    exact (Kd.R_val hR).2
  have hgne : ∀ k_, (P0_ k_ ∧ some k_ ≠ (Value.slice (some ⟨g, 0, none⟩) n cap).ownBlock) → some k_ ≠ some g := fun k_ hk => hk.2
  have hmv : ∀ (i : Fin n) (W : World), w.grownBy W (some g) → (Kd.slice 3 (Kd.int .i64)).M W w0.heap.size (fun k_ => (P0_ k_ ∧ some k_ ≠ (Value.slice (some ⟨g, 0, none⟩) n cap).ownBlock) ∧ f k_ = i.val) (l0.getD i.val []) [enc i] := fun i W hW => Kd.M_grown (hM i) hW (fun k_ hk => hgne k_ hk.1)
  have hO : Go.Sort.SWO (ltOf fun i j : Fin n => cmpR (l0.getD i.val []) (l0.getD j.val [])) := by
    refine ⟨fun x => ?_, fun x y z hxy hyz => ?_, fun x y z hxy hyz => ?_⟩
    ·unfold ltOf
     rw [decide_eq_false_iff_not, cmpR_lt]
     exact List.lt_irrefl _
    ·unfold ltOf at hxy hyz ⊢
     rw [decide_eq_true_eq, cmpR_lt] at hxy hyz ⊢
     exact List.lt_trans hxy hyz
    unfold ltOf at hxy hyz ⊢
    rw [decide_eq_false_iff_not, cmpR_lt] at hxy hyz ⊢
    exact List.le_trans hyz hxy
  have hC : CmpLays1 Try.prog 67 #[] enc (fun i j : Fin n => cmpR (l0.getD i.val []) (l0.getD j.val [])) g 0 (List.finRange n).toArray.size w := by
    refine CmpReads.lays ?_
    intro m os dk _ x y
    have hW := grownBy_sortedE (enc := enc) (w := w) (g := g) (n := m) (os := os) dk
    obtain ⟨A1, c1, e1, hl1, hr1⟩ := (Kd.slice 3 (Kd.int .i64)).K_of_M (hmv x _ hW)
    obtain ⟨A2, c2, e2, hl2, hr2⟩ := (Kd.slice 3 (Kd.int .i64)).K_of_M (hmv y _ hW)
    have e1 : enc x = .slice A1 (l0.getD x.val []).length c1 := by injection e1
    have e2 : enc y = .slice A2 (l0.getD y.val []).length c2 := by injection e2
    rw [e1, e2]
    refine (slices_Compare_int_int.calls k A1 c1 _ A2 c2 _ _ _ hr1 hl1 hr2 hl2 (hcmp _ (List.mem_of_getElem? (hli x)) _ (List.mem_of_getElem? (hli y)))).mono ?_
    rintro e w' ⟨rfl, q, hq⟩
    exact ⟨rfl, q, hq⟩
  have hH : Go.Sort.Holds enc w g 0 (List.finRange n).toArray := by
    intro j hj
    have hj' : j < n := by simpa using hj
    have hd : (List.finRange n).toArray[j]! = ⟨j, hj'⟩ := by
      rw [getElem!_pos _ j hj]
      simp
    refine ⟨?_, by simp [World.frozen?, hh]⟩
    rw [hd]
    have h1 : (cur.toList.take n)[j]? = some (enc ⟨j, hj'⟩) := by rw [ht]; exact hin ⟨j, hj'⟩
    rw [List.getElem?_take_of_lt hj'] at h1
    simp only [World.cell?, hh, Nat.zero_add]
    simp only [Option.isSome_none, Bool.false_eq_true, if_false]
    rw [← Array.getElem?_toList, h1]
  have hsz : (List.finRange n).toArray.size = n := by simp
  have hcall := YtdlobolnajcfnaaSh.sortf_calls enc hone (fun i j : Fin n => cmpR (l0.getD i.val []) (l0.getD j.val [])) hO 67 g 0 cap (List.finRange n).toArray w (enters_of Try.func67 (by kernel_rfl) rfl) hC hH hgl (by rw [hsz]; exact hlen)
  rw [hsz] at hcall
  refine hcall.mono ?_
  rintro e w' ⟨rfl, d', m, os, hp, hs, rfl⟩
  obtain ⟨hp1, _, hp3⟩ := hp
  rw [hsz] at hp1
  have hp4 : d'.toList.Perm (List.finRange n) := by
    have e1 : d'.extract 0 n = d' := by
      have := Array.extract_size (xs := d')
      rwa [hp1] at this
    have e2 : (List.finRange n).toArray.extract 0 n = (List.finRange n).toArray := by
      have := Array.extract_size (xs := (List.finRange n).toArray)
      rwa [hsz] at this
    rwa [e1, e2] at hp3
  have hnd : d'.toList.Nodup := hp4.nodup_iff.2 (List.nodup_finRange n)
  have hpw : d'.toList.Pairwise fun i j => ¬ l0.getD j.val [] < l0.getD i.val [] := by
    rw [List.pairwise_iff_getElem]
    intro i j hi hj hij
    have hi2 : i < d'.size := by simpa using hi
    have hj2 : j < d'.size := by simpa using hj
    have h2 := hs i j (Nat.zero_le _) hij (by omega)
    unfold ltOf at h2
    rw [decide_eq_false_iff_not, cmpR_lt, getElem!_pos _ i hi2, getElem!_pos _ j hj2] at h2
    simpa using h2
  have hsort := sort_places l0 hN.symm hpos d'.toList hp4 hpw
  have hg := grownBy_sortedE (enc := enc) (w := w) (g := g) (n := m) (os := os) d'
  refine ⟨rfl, ?_, hB.grown hg hB.size (by intro k hk; injection hk with hk; omega), Kept.of_grown hg (Kept.refl w _) (by intro k hk; injection hk with hk; subst hk; exact .inl rfl)⟩
  have hdl : d'.toList.length = n := by simpa using hp1
  have hrl : (sortR l0).length = n := by rw [sortR_len, hN]
  refine ⟨fun k_ => if hk : f k_ < n then d'.toList.idxOf ⟨f k_, hk⟩ else n, h0, d'.toList.map enc, ⟨by rw [List.length_zipIdx, hrl, List.length_map, hdl]; exact (Nat.mul_one n).symm, .inr ⟨g, cap, _, by rw [List.length_zipIdx, hrl], hbg, heap_sortedE d' hh, by rw [List.length_zipIdx, hrl]; exact hnc, hcm, by rw [show (Kd.tag _ (Kd.slice 3 (Kd.int .i64))).sz = 1 from rfl, Nat.mul_one]; simp [Go.Sort.putCells, hcs], ?_⟩⟩, ?_, ?_⟩
  ·rw [show (Kd.tag _ (Kd.slice 3 (Kd.int .i64))).sz = 1 from rfl, Nat.mul_one, List.length_zipIdx, hrl]
   have := take_putCellsE (enc := enc) cur d' (by omega)
   rwa [hp1] at this
  ·rw [List.length_map, List.length_zipIdx, hrl, hdl]
   exact (Nat.mul_one n).symm
  intro j p hj
  obtain ⟨hjl, _⟩ := List.getElem?_eq_some_iff.1 hj
  rw [List.length_zipIdx, hrl] at hjl
  have hdj : d'.toList[j]? = some (d'.toList[j]'(by omega)) := List.getElem?_eq_getElem (by omega)
  generalize hi : d'.toList[j]'(by omega) = i at hdj
  rw [show (Kd.tag _ (Kd.slice 3 (Kd.int .i64))).sz = 1 from rfl, drop_take_one _ j (enc i) (by rw [List.getElem?_map, hdj]; rfl)]
  have hrj : (sortR l0)[j]? = some (l0.getD i.val []) := by rw [← hsort, List.getElem?_map, hdj]; rfl
  rw [Kd.zip_at hrj] at hj
  obtain rfl := Option.some.inj hj
  have h2 := hmv i _ hg
  refine (Kd.slice 3 (Kd.int .i64)).M_mono ?_ h2
  intro k_ hk
  refine ⟨hk.1, ?_⟩
  have hfk : f k_ < n := by rw [hk.2]; exact i.isLt
  dsimp only
  rw [dif_pos hfk, show (⟨f k_, hfk⟩ : Fin n) = i from Fin.ext hk.2, ← hi]
  exact hnd.idxOf_getElem j (by omega)

end Go.Proofs.Ytdlobolnajcfnaa.PFnDisputes
