-- Written by a program of this session (hooks of mine on the print): Lean checks it.
import Derived.Test.YtdlobolnajcfnaaPFnGamesx0
import Derived.Test.YtdlobolnajcfnaaPFnGamesx3
namespace Go.Proofs.Ytdlobolnajcfnaa.PFnGames
open Go.RowKit Go.Proofs.YtdlobolnajcfnaaW.PrintWords Go.Proofs.YtdlobolnajcfnaaW.PrintLast Go.Proofs.YtdlobolnajcfnaaW.PrintMore
attribute [local go_sem] max2_int min2_int max_two min_two max_three min_three max_four min_four   -- for this text's walks alone
set_option linter.unusedVariables false
set_option linter.unusedSimpArgs false

/-! ### impl_wins: function 62 -/
mutual
def impl_wins.l0 : Nat → Int → Bool → List Int → Int → Int → Int → List (List Int) → Option (Bool)
  | 0, _, _, _, _, _, _, _ => none
  | k + 1, x1, x12, x31, x32, x33, x235000, x235001 => if x33 < x32 then (if 0 ≤ x33 then (if x33 < (x31.length : Int) then ((impl_AttackersOf.f k x235000 x235001 (rd x31 x33)).bind fun t239 => (impl_wins.l1 k x1 x12 false x31 x32 x33 t239 (t239.length : Int) 0 x235000 x235001)) else (none)) else (none)) else (some x12)
def impl_wins.l1 : Nat → Int → Bool → Bool → List Int → Int → Int → List Int → Int → Int → Int → List (List Int) → Option (Bool)
  | 0, _, _, _, _, _, _, _, _, _, _, _ => none
  | k + 1, x1, x12, x15, x31, x32, x33, x39, x40, x41, x235000, x235001 => if x41 < x40 then (if 0 ≤ x41 then (if x41 < (x39.length : Int) then (if 0 ≤ (rd x39 x41) then (if (Go.bits .and .i64 (shr .i64 x1 (rd x39 x41)) 1) = 0 then ((impl_wins.f k x235000 x235001 (Go.bits .or .i64 x1 (shl .i64 1 (rd x39 x41))) (rd x39 x41)).bind fun t243 => (if t243 = true then (impl_wins.l0 k x1 x12 x31 x32 (wrap64 (x33 + 1)) x235000 x235001) else (impl_wins.l1 k x1 x12 x15 x31 x32 x33 x39 x40 (wrap64 (x41 + 1)) x235000 x235001))) else (impl_wins.l1 k x1 x12 x15 x31 x32 x33 x39 x40 (wrap64 (x41 + 1)) x235000 x235001)) else (none)) else (none)) else (none)) else (if x15 = true then (impl_wins.l0 k x1 x12 x31 x32 (wrap64 (x33 + 1)) x235000 x235001) else (some false))
def impl_wins.f : Nat → Int → List (List Int) → Int → Int → Option (Bool)
  | 0, _, _, _, _ => none
  | k + 1, a0_0, l0_1, a1, a2 => if (Lit.int .i64 a1).wf = true then (if (Lit.int .i64 a2).wf = true then ((impl_AttackersOf.f k a0_0 l0_1 a2).bind fun t235 => (impl_wins.l0 k a1 true t235 (t235.length : Int) 0 a0_0 l0_1)) else none) else none
end
theorem impl_wins.mono_l : ∀ k, (∀ y0 y1 y2 y3, LeO (impl_wins.f k y0 y1 y2 y3) (impl_wins.f (k + 1) y0 y1 y2 y3)) ∧ (∀ y0 y1 y2 y3 y4 y5 y6, LeO (impl_wins.l0 k y0 y1 y2 y3 y4 y5 y6) (impl_wins.l0 (k + 1) y0 y1 y2 y3 y4 y5 y6)) ∧ (∀ y0 y1 y2 y3 y4 y5 y6 y7 y8 y9 y10, LeO (impl_wins.l1 k y0 y1 y2 y3 y4 y5 y6 y7 y8 y9 y10) (impl_wins.l1 (k + 1) y0 y1 y2 y3 y4 y5 y6 y7 y8 y9 y10))
  | 0 => ⟨fun _ _ _ _ r h => by simp [impl_wins.f] at h, fun _ _ _ _ _ _ _ r h => by simp [impl_wins.l0] at h, fun _ _ _ _ _ _ _ _ _ _ _ r h => by simp [impl_wins.l1] at h⟩
  | k + 1 => by
    obtain ⟨ih0, ih1, ih2⟩ := impl_wins.mono_l k
    refine ⟨?_, ?_, ?_⟩
    · intro y0 y1 y2 y3
      unfold impl_wins.f
      repeat' first
      | (with_reducible exact ih0 _ _ _ _)
      | (with_reducible exact ih1 _ _ _ _ _ _ _)
      | (with_reducible exact ih2 _ _ _ _ _ _ _ _ _ _ _)
      | (with_reducible exact impl_AttackersOf.mono _ _ _ _)
      | (with_reducible exact ZJ _)
      | (with_reducible exact Zn _)
      | (with_reducible refine Zt ?_ ?_)
      | (with_reducible refine Zo ?_ (fun _ => ?_))
      | exact ih0 _ _ _ _
      | exact ih1 _ _ _ _ _ _ _
      | exact ih2 _ _ _ _ _ _ _ _ _ _ _
      | exact impl_AttackersOf.mono _ _ _ _
      | exact Zn _
      | refine Zt ?_ ?_
      | refine Zo ?_ (fun _ => ?_)
    · intro y0 y1 y2 y3 y4 y5 y6
      unfold impl_wins.l0
      repeat' first
      | (with_reducible exact ih0 _ _ _ _)
      | (with_reducible exact ih1 _ _ _ _ _ _ _)
      | (with_reducible exact ih2 _ _ _ _ _ _ _ _ _ _ _)
      | (with_reducible exact impl_AttackersOf.mono _ _ _ _)
      | (with_reducible exact ZJ _)
      | (with_reducible exact Zn _)
      | (with_reducible refine Zt ?_ ?_)
      | (with_reducible refine Zo ?_ (fun _ => ?_))
      | exact ih0 _ _ _ _
      | exact ih1 _ _ _ _ _ _ _
      | exact ih2 _ _ _ _ _ _ _ _ _ _ _
      | exact impl_AttackersOf.mono _ _ _ _
      | exact Zn _
      | refine Zt ?_ ?_
      | refine Zo ?_ (fun _ => ?_)
    · intro y0 y1 y2 y3 y4 y5 y6 y7 y8 y9 y10
      unfold impl_wins.l1
      repeat' first
      | (with_reducible exact ih0 _ _ _ _)
      | (with_reducible exact ih1 _ _ _ _ _ _ _)
      | (with_reducible exact ih2 _ _ _ _ _ _ _ _ _ _ _)
      | (with_reducible exact impl_AttackersOf.mono _ _ _ _)
      | (with_reducible exact ZJ _)
      | (with_reducible exact Zn _)
      | (with_reducible refine Zt ?_ ?_)
      | (with_reducible refine Zo ?_ (fun _ => ?_))
      | exact ih0 _ _ _ _
      | exact ih1 _ _ _ _ _ _ _
      | exact ih2 _ _ _ _ _ _ _ _ _ _ _
      | exact impl_AttackersOf.mono _ _ _ _
      | exact Zn _
      | refine Zt ?_ ?_
      | refine Zo ?_ (fun _ => ?_)
theorem impl_wins.mono : ∀ a0 a1 a2 a3 k, LeO (impl_wins.f k a0 a1 a2 a3) (impl_wins.f (k + 1) a0 a1 a2 a3) := by
  intro a0 a1 a2 a3 k
  obtain ⟨ih0, ih1, ih2⟩ := impl_wins.mono_l k
  exact ih0 a0 a1 a2 a3
def impl_wins.T13 : Bool × List (List Nat × List Nat) := (true, [([], []), ([], []), ([0, 1], [0, 1]), ([2], [2]), ([3], [3]), ([4], [4]), ([5], [5]), ([5], [5]), ([5], [5]), ([8, 5], [5, 8]), ([7, 9, 5], [5, 7, 9]), ([5], [5]), ([5], [5]), ([6, 10, 11, 12, 5, 5], [5, 6, 10, 11, 12]), ([5, 13], [5, 13])])
def impl_wins.B13 : List Nat := [0, 0, 3, 7, 15, 31, 63, 63, 63, 319, 959, 63, 63, 8191, 16383]
theorem impl_wins.tab13 : rtab .any (opsOf Try.f62 13) = impl_wins.T13 := by kernel_rfl
theorem impl_wins.bits13 : waitsOk impl_wins.T13.2 impl_wins.B13 = true := by kernel_rfl
def winsG (n : Int) (xs : List (List Int)) (u c : Int) (b : Bool) : Prop := ∃ k, impl_wins.f k n xs u c = some b
theorem impl_wins.mono_le (n : Int) (xs : List (List Int)) (u c : Int) (b : Bool) (k : Nat) (h : impl_wins.f k n xs u c = some b) : ∀ j, impl_wins.f (k + j) n xs u c = some b
  | 0 => h
  | j + 1 => impl_wins.mono n xs u c (k + j) _ (impl_wins.mono_le n xs u c b k h j)
theorem winsG_det {n : Int} {xs : List (List Int)} {u c : Int} {b b' : Bool} (h : winsG n xs u c b) (h' : winsG n xs u c b') : b = b' := by
  obtain ⟨k, h⟩ := h
  obtain ⟨k', h'⟩ := h'
  have h1 := impl_wins.mono_le n xs u c b k h k'
  have h2 := impl_wins.mono_le n xs u c b' k' h' k
  rw [Nat.add_comm] at h2
  rw [h1] at h2
  exact Option.some.inj h2
section
open Go.Maps Go.ChangeMaps
theorem laidK : laidOutB Try.prog = true := by kernel_rfl
theorem lawK : Keyed Try.prog 87 := Keyed.of_law (deep_law_laid laidK (m := 2) (by omega) (of_decide_eq_true (by kernel_rfl)) (by kernel_rfl) (by rw [Try.underlying87]))
theorem keyK (u c : Int) (hu : (Lit.int .i64 u).wf = true) (hc : (Lit.int .i64 c).wf = true) : ∃ kl, keyOf Try.prog 87 (.agg #[.int .i64 u, .int .i64 c]) = some kl := by
  have hc87 : Try.prog.cellsOf 87 = 2 := by kernel_rfl
  have hc3 : Try.prog.cellsOf 3 = 1 := by kernel_rfl
  have hk : Try.prog.keyType 87 = true := by kernel_rfl
  have hf : (Value.agg #[.int .i64 u, .int .i64 c]).formed Try.prog 87 = true := by simp [Value.formed, Try.underlying87, hc87]
  refine Option.isSome_iff_exists.1 ?_
  unfold keyOf
  rw [Try.underlying87]
  simp only [hk, hf, Bool.and_self, if_true]
  rw [show Try.prog.types.size + 1 = (Try.prog.types.size - 1) + 1 + 1 by kernel_rfl]
  generalize Try.prog.types.size - 1 = m
  simp [Program.keyLits, Try.underlying87, Try.underlying3, Value.cells, hc87, hc3, hu, hc, List.range, List.range.loop]
theorem zeroK (w : World) : (zeroValue 4).run Try.prog w = .ok (.bool false) w := by kernel_rfl
/-- The map that a game keeps, at block B: whatever it holds is good. -/
def KM (good : Int → Int → Bool → Prop) (w : World) (B : Nat) : Prop :=
  ∃ es clock, w.heap[B]? = some (.map es clock) ∧ ∀ x ∈ es.toList, ∃ u c b, x.key = .agg #[.int .i64 u, .int .i64 c] ∧ (Lit.int .i64 u).wf = true ∧ (Lit.int .i64 c).wf = true ∧ x.val = .bool b ∧ good u c b
section
variable {good : Int → Int → Bool → Prop} {w w' : World} {B : Nat}
theorem KM.step (h : KM good w B) (hk : w'.heap[B]? = w.heap[B]?) : KM good w' B := by
  obtain ⟨es, clock, hb, hx⟩ := h
  exact ⟨es, clock, hk.trans hb, hx⟩
theorem KM.lt (h : KM good w B) : B < w.heap.size := by
  obtain ⟨es, clock, hb, _⟩ := h
  exact (Array.getElem?_eq_some_iff.1 hb).1
theorem KM.below (h : KM good w B) (hb : Below w.heap.size w w') : KM good w' B := h.step (hb.block B h.lt)
theorem KM.alloc (h : KM good w B) (o : Obj) : KM good (w.alloc o) B := h.below (Zq (Below.refl _ _) o)
theorem KM.drew (h : KM good w B) : KM good w.drew B := h
theorem KM.drewN (h : KM good w B) (m : Nat) : KM good (w.drewN m) B := h
theorem km_row {α : Type} {d : Kd α} {e : Nat} {v : Value} {xs : List α} (h : d.R e w' w.heap.size (fun _ => True) v xs) (hm : KM good w B) : d.R e w' w.heap.size (fun k => k ≠ B) v xs := Zz (Kd.R_bound h) (fun k hk => by have := hm.lt; have := hk.2.1; omega)
theorem KM.made (w : World) : KM good (w.alloc (.map #[] 0)) w.heap.size := ⟨#[], 0, (MapKept.heap_alloc w _).1, by simp⟩
/-- What a look-up finds: what is good, or nothing; it looks at the map's block alone. -/
theorem KM.look (h : KM good w B) (u c : Int) (hu : (Lit.int .i64 u).wf = true) (hc : (Lit.int .i64 c).wf = true) (hdet : ∀ b b', good u c b → good u c b' → b = b') :
    (∃ b, good u c b ∧ ∀ W : World, W.heap[B]? = w.heap[B]? → (Instr.lookup 68 (.map (some B)) (.agg #[.int .i64 u, .int .i64 c]) true).run Try.prog W = .ok (.tuple #[.bool b, .bool true]) W) ∨
    (∀ W : World, W.heap[B]? = w.heap[B]? → (Instr.lookup 68 (.map (some B)) (.agg #[.int .i64 u, .int .i64 c]) true).run Try.prog W = .ok (.tuple #[.bool false, .bool false]) W) := by
  obtain ⟨es, clock, hb, hx⟩ := h
  obtain ⟨kl, hkl⟩ := keyK u c hu hc
  have hks : ∀ e ∈ es.toList, ∃ l, keyOf Try.prog 87 e.key = some l := fun e he => by
    obtain ⟨u', c', b', hk', hu', hc', _⟩ := hx e he
    rw [hk']
    exact keyK u' c' hu' hc'
  rcases lawK.find w hkl es.toList hks with ⟨h1, h2⟩ | ⟨j, e0, h1, h2, h3⟩
  · refine Or.inr (fun W hW => ?_)
    have f1 : (Instr.findKey 87 (.agg #[.int .i64 u, .int .i64 c]) es.toList).run Try.prog W = .ok none W := by
      rcases lawK.find W hkl es.toList hks with ⟨g1, _⟩ | ⟨j', e', _, g2, g3⟩
      · exact g1
      · exact absurd g3 (h2 e' (List.mem_of_getElem? g2))
    simp [Instr.lookup, run_underlying Try.underlying68, MapKept.run_getObj_map (hW.trans hb), lawK.check W _ hkl, f1, zeroK W, Result.andThen]
  · obtain ⟨u', c', b', hk', hu', hc', hv', hg'⟩ := hx e0 (List.mem_of_getElem? h2)
    rw [h3] at hk'
    simp only [Value.agg.injEq, Array.mk.injEq, List.cons.injEq, Value.int.injEq, true_and, and_true] at hk'
    obtain ⟨rfl, rfl⟩ := hk'
    refine Or.inl ⟨b', hg', fun W hW => ?_⟩
    have f1 : ∃ j', (Instr.findKey 87 (.agg #[.int .i64 u, .int .i64 c]) es.toList).run Try.prog W = .ok (some (j', .bool b')) W := by
      rcases lawK.find W hkl es.toList hks with ⟨g1, g2⟩ | ⟨j', e', g1, g2, g3⟩
      · exact absurd h3 (g2 e0 (List.mem_of_getElem? h2))
      · obtain ⟨u2, c2, b2, k2, _, _, v2, q2⟩ := hx e' (List.mem_of_getElem? g2)
        rw [g3] at k2
        simp only [Value.agg.injEq, Array.mk.injEq, List.cons.injEq, Value.int.injEq, true_and, and_true] at k2
        obtain ⟨rfl, rfl⟩ := k2
        rw [v2, hdet _ _ q2 hg'] at g1
        exact ⟨j', g1⟩
    obtain ⟨j', f1⟩ := f1
    simp [Instr.lookup, run_underlying Try.underlying68, MapKept.run_getObj_map (hW.trans hb), lawK.check W _ hkl, f1, Result.andThen]
/-- A store of what is good. -/
theorem KM.store (h : KM good w B) (u c : Int) (b : Bool) (hu : (Lit.int .i64 u).wf = true) (hc : (Lit.int .i64 c).wf = true) (hg : good u c b) :
    ∃ w', (Instr.mapUpdate 68 (.map (some B)) (.agg #[.int .i64 u, .int .i64 c]) (.bool b)).run Try.prog w = .ok () w' ∧ KM good w' B ∧ w.grownBy w' (some B) := by
  obtain ⟨es, clock, hb, hx⟩ := h
  obtain ⟨kl, hkl⟩ := keyK u c hu hc
  have hks : ∀ e ∈ es.toList, ∃ l, keyOf Try.prog 87 e.key = some l := fun e he => by
    obtain ⟨u', c', b', hk', hu', hc', _⟩ := hx e he
    rw [hk']
    exact keyK u' c' hu' hc'
  have hgr : ∀ o, w.grownBy (setBlock w B o) (some B) := fun o => ⟨rfl, rfl, rfl, by simp [setBlock], fun i _ hi => heap_setBlock_other hb _ (fun e => hi (by rw [e]))⟩
  rcases lawK.find w hkl es.toList hks with ⟨h1, h2⟩ | ⟨j, e0, h1, h2, h3⟩
  · refine ⟨setBlock w B (.map (es.push ⟨.agg #[.int .i64 u, .int .i64 c], .bool b, clock⟩) (clock + 1)), ?_, ⟨_, _, heap_setBlock_same hb _, fun x hx' => ?_⟩, hgr _⟩
    · simp [Instr.mapUpdate, run_underlying Try.underlying68, MapKept.run_getObj_map hb, lawK.check w false hkl, h1, MapKept.run_setObj_map _ hb, Result.andThen, setBlock]
    · simp only [Array.toList_push, List.mem_append, List.mem_singleton] at hx'
      rcases hx' with hx' | rfl
      · exact hx x hx'
      · exact ⟨u, c, b, rfl, hu, hc, rfl, hg⟩
  · have hj : es[j]? = some e0 := by simpa using h2
    refine ⟨setBlock w B (.map (es.modify j (fun e' => { e' with key := .agg #[.int .i64 u, .int .i64 c], val := .bool b })) clock), ?_, ⟨_, _, heap_setBlock_same hb _, fun x hx' => ?_⟩, hgr _⟩
    · simp [Instr.mapUpdate, run_underlying Try.underlying68, MapKept.run_getObj_map hb, lawK.check w false hkl, h1, hj, h3, lawK.stays w hkl, MapKept.run_setObj_map _ hb, Result.andThen, setBlock]
    · rw [Array.toList_modify] at hx'
      obtain ⟨i, hi, ex⟩ := List.getElem_of_mem hx'
      rw [List.getElem_modify] at ex
      split at ex
      · subst ex
        exact ⟨u, c, b, rfl, hu, hc, rfl, hg⟩
      · subst ex
        exact hx _ (List.getElem_mem _)
end
section
variable {P : Program} {w : World} {ops : Array Oper} {rest : List Oper} {o : Oper} {a : Act} {Q : Exit → Act → World → Prop}
theorem km_lookup (hg : o.guard = none) (m x : Operand) (t : TypeId) (hop : o.op = Op.lookup t m x true) {mv xv v : Value} (hm : a.eval m = mv) (hx : a.eval x = xv) (hrun : (Instr.lookup t mv xv true).run P w = .ok v w)
    (hK : wpList P ops Q rest (a.put o.dst v) w) : wpList P ops Q (o :: rest) a w := by
  refine wpList_plain hg fun K' hK' => ?_
  unfold Oper.wp
  simp [execOp, hop, hm, hx, hrun, Result.andThen]
  exact hK' _ _ hK
theorem km_update {good : Int → Int → Bool → Prop} {B : Nat} (hg : o.guard = none) (m x v : Operand) (t : TypeId) (hop : o.op = Op.mapUpdate t m x v) (ht : t = 68) {u c : Int} {b : Bool} (hm : a.eval m = .map (some B)) (hx : a.eval x = .agg #[.int .i64 u, .int .i64 c]) (hv : a.eval v = .bool b) (h : KM good w B)
    (hu : (Lit.int .i64 u).wf = true) (hc : (Lit.int .i64 c).wf = true) (hgd : good u c b) (hK : ∀ w', KM good w' B → w.grownBy w' (some B) → wpList Try.prog ops Q rest (a.put o.dst undef) w') : wpList Try.prog ops Q (o :: rest) a w := by
  subst ht
  refine wpList_plain hg fun K' hK' => ?_
  obtain ⟨w', hrun, r1, r2⟩ := h.store u c b hu hc hgd
  unfold Oper.wp
  simp [execOp, hop, hm, hx, hv, hrun, Result.andThen]
  exact hK' _ _ (hK w' r1 r2)
theorem km_make {good : Int → Int → Bool → Prop} {Kc : Act → World → Prop} (hw : Region.wanted o (yielded ops a.tmps) = true) (hop : o.op = Op.makeMap 68 none)
    (h : ∀ B w1, B = w.heap.size → KM good w1 B → Below w.heap.size w w1 → Kc (a.put o.dst (.map (some B))) w1) : if Region.wanted o (yielded ops a.tmps) = true then Oper.wp Try.prog o a w Kc Q else Kc (a.put o.dst undef) w := by
  refine event_step (w1 := w.alloc (.map #[] 0)) (v := .map (some w.heap.size)) hw ?_ (h _ _ rfl (KM.made w) (Zq (Below.refl _ _) _))
  have h68 := Try.underlying68
  simp [execOp, hop, run_makeMap, run_underlying h68, Result.andThen]
theorem km_make_plain {good : Int → Int → Bool → Prop} (hg : o.guard = none) (hop : o.op = Op.makeMap 68 none)
    (h : ∀ B w1, B = w.heap.size → KM good w1 B → Below w.heap.size w w1 → wpList Try.prog ops Q rest (a.put o.dst (.map (some B))) w1) : wpList Try.prog ops Q (o :: rest) a w := by
  refine wpList_plain hg fun K' hK' => ?_
  have h68 := Try.underlying68
  unfold Oper.wp
  simp [execOp, hop, run_makeMap, run_underlying h68, Result.andThen]
  exact hK' _ _ (h _ _ rfl (KM.made w) (Zq (Below.refl _ _) _))
end
theorem km_through {w0 W w1 w2 : World} {B : Nat} (h0 : Below w0.heap.size w0 W) (h2 : Below w0.heap.size w0 w2) (h1 : Below W.heap.size W w1) (hk : Kept w1 w2 (fun k => k = B)) (hB : W.heap.size ≤ B) : Below W.heap.size W w2 :=
  ⟨h2.os.trans h0.os.symm, h2.tape.trans h0.tape.symm, h2.output.trans h0.output.symm, Nat.le_trans h1.size hk.1, fun k hlt => (hk.2 k (Nat.lt_of_lt_of_le hlt h1.size) (fun e => by omega)).trans (h1.block k hlt)⟩
end
set_option maxHeartbeats 8000000 in
set_option maxRecDepth 100000 in
theorem impl_wins.calls (k : Nat) : ∀ (a0_0 : Int) (A0_1 : Option Addr) (c0_1 : Nat) (l0_1 : List (List Int)) (a1 : Int) (a2 : Int) (B : Nat) (r : Bool) (w0 w : World) (hB : Below w0.heap.size w0 w) (hBB : w0.heap.size ≤ B) (hm : KM (winsG a0_0 l0_1) w B) (hr0_1 : Kd.C (Kd.slice 3 (Kd.int .i64)) w0 A0_1 l0_1.length l0_1) (hc0_1 : l0_1.length ≤ c0_1) (h : impl_wins.f k a0_0 l0_1 a1 a2 = some r),
    Calls Try.prog 62 #[.agg #[.int .i64 a0_0, .slice A0_1 l0_1.length c0_1], .int .i64 a1, .int .i64 a2, .map (some B)] w fun e w' => e = .returned (.bool r) ∧ Below w0.heap.size w0 w' ∧ KM (winsG a0_0 l0_1) w' B ∧ Kept w w' (fun k_ => k_ = B) := by
  induction k using Nat.strongRecOn with
  | _ k ih =>
  intro a0_0 A0_1 c0_1 l0_1 a1 a2 B r w0 w hB hBB hm hr0_1 hc0_1 h
  cases k with
  | zero => exact absurd h (by simp [impl_wins.f])
  | succ k =>
  have hgood : winsG a0_0 l0_1 a1 a2 r := ⟨k + 1, h⟩
  simp only [impl_wins.f] at h
  by_cases hu : (Lit.int .i64 a1).wf = true
  case neg =>
    rw [if_neg hu] at h
    exact absurd h (by simp)
  by_cases hc : (Lit.int .i64 a2).wf = true
  case neg =>
    rw [if_pos hu, if_neg hc] at h
    exact absurd h (by simp)
  rw [if_pos hu, if_pos hc] at h
  have hu27 := Try.underlying27
  have HR0_1 := Aside0.mk hr0_1
  have HC0_1 := Aside0.mk hc0_1
  clear hr0_1 hc0_1
  have HB := Aside0.mk hB
  have HBB := Aside0.mk hBB
  have HM := Aside0.mk hm
  have HE := Aside0.mk (rfl : w.heap[B]? = w.heap[B]?)
  have HKB := Aside0.mk (Kept.refl w (fun k_ => k_ = B))
  have hlook := hm.look a1 a2 hu hc (fun b b' h1 h2 => winsG_det h1 h2)
  have HU := Aside0.mk hu
  have HC := Aside0.mk hc
  have HG := Aside0.mk hgood
  clear hB hBB hm hu hc hgood
  have H : ((impl_AttackersOf.f k a0_0 l0_1 a2).bind fun t235 => (impl_wins.l0 k a1 true t235 (t235.length : Int) 0 a0_0 l0_1)) = some r := h
  clear h
  replace H := Option.bind_eq_some_iff.mp H
  obtain ⟨t235, A40, H⟩ := H
  replace H : (impl_wins.l0 k a1 true t235 (t235.length : Int) 0 a0_0 l0_1) = some r := H
  have A4 := Aside0.mk A40
  clear A40
  have H' := Aside0.mk H
  clear H
  rcases hlook with ⟨b, hgb, hlook⟩ | hlook
  · obtain rfl := winsG_det hgb HG.out
    go_enter Try.func62, Try.ntmps62
    go_wp2_with (first | ((with_reducible refine ZD (N := 4) rfl ?_); refine ZH ?hg (N := 4) ?hd (cs := #[.int .i64 a0_0, .slice A0_1 l0_1.length c0_1]) (t := 27) ?hr ?_; (case hd => rfl); (case hg => rfl); (case hr => first | (go_simp; done) | (go_simp; rfl)); intro gb234 hg w5 hbox hb; have n0_ := Aside0.mk (Ze hB_ hb); have n1_ := Aside0.mk (hbox); have n2_ := Aside0.mk ((hz_ hg : w0.heap.size ≤ gb234)); have n3_ := Aside0.mk ((hz_ hg : w0.heap.size ≤ gb234)); have m0_ := Aside0.mk ((hb.block B HM.out.lt).trans HE.out); have m1_ := Aside0.mk (HM.out.below hb); have m2_ := Aside0.mk (HKB.out.below hb); have HNG := Aside0.mk (show gb234 ≠ B by have := HM.out.lt; omega); clear HB HM HE HKB; have HB := n0_; have HE := m0_; have HM := m1_; have HKB := m2_; clear m0_ m1_ m2_; have BK234 := n1_; have GW234 := n2_; have GE234 := n3_; clear n0_ n1_ n2_ n3_; clear hb hbox hg; have hcz6_0 : w5.cell? ⟨gb234, 0, none⟩ = some (.int .i64 a0_0) := (Za BK234.out 0).trans rfl; have hcz6_1 : w5.cell? ⟨gb234, 1, none⟩ = some (.slice A0_1 l0_1.length c0_1) := (Za BK234.out 1).trans rfl; have hfz6_0 := Zb BK234.out 0; have hfz6_1 := Zb BK234.out 1) | ((with_reducible refine ZD (N := 9) rfl ?_); refine ZH ?hg (N := 9) ?hd (cs := #[.int .i64 0, .int .i64 0]) (t := 87) ?hr ?_; (case hd => rfl); (case hg => rfl); (case hr => first | (go_simp; done) | (go_simp; rfl)); intro gk hg w6 hbox hb; have HGK := Aside0.mk (Zl HB.out); have n0_ := Aside0.mk (Ze HB.out hb); have n1_ := Aside0.mk hbox; have n2_ := Aside0.mk (show w0.heap.size ≤ gk by rw [hg]; exact HGK.out); have n3_ := Aside0.mk (Zc (g := gb234) (o := .cells #[.int .i64 a0_0, .slice A0_1 l0_1.length c0_1] 27 (0, 0)) BK234.out hb); have m0_ := Aside0.mk ((hb.block B HM.out.lt).trans HE.out); have m1_ := Aside0.mk (HM.out.below hb); have m2_ := Aside0.mk (HKB.out.below hb); have HNK := Aside0.mk (show gk ≠ B by have := HM.out.lt; omega); have HNN := Aside0.mk (show gb234 ≠ gk by have := blk_lt BK234.out; omega); have HWK := Aside0.mk (show w.heap.size ≤ gk by have := HKB.out.1; omega); clear HB HM HE HKB BK234 HGK; have HB := n0_; have BKK := n1_; have GEK := n2_; have BK234 := n3_; have HE := m0_; have HM := m1_; have HKB := m2_; clear n0_ n1_ n2_ n3_ m0_ m1_ m2_ hb hbox hg; have hfk_0 := Zb BKK.out 0; have hfk_1 := Zb BKK.out 1; have hck_0 : w6.cell? ⟨gk, 0, none⟩ = some (.int .i64 0) := (Za BKK.out 0).trans rfl; have hck_1 : w6.cell? ⟨gk, 1, none⟩ = some (.int .i64 0) := (Za BKK.out 1).trans rfl) | ((with_reducible refine gate_store (t := 87) (p := 9) rfl ?_); refine store_event (t := 87) (p := 9) (v := ?vo_8) (w1 := ((w6.setCell ⟨gk, 0, none⟩ (.int .i64 a1)).setCell ⟨gk, 1, none⟩ (.int .i64 a2))) ?hg ?ho ?hn ?hr ?_; (case ho => rfl); (case hg => rfl); (case hn => rfl); (case hr => first | (go_simp; done) | (go_simp; rfl)); intro w8 hw; have n1_ := Aside0.mk (show w8.heap[gk]? = some (.cells #[.int .i64 a1, .int .i64 a2] 87 (0, 0)) by rw [hw]; exact ZT (cs := #[.int .i64 a1, .int .i64 0]) (ZT (cs := #[.int .i64 0, .int .i64 0]) BKK.out 0 _ rfl) 1 _ rfl); have n0_ := Aside0.mk (show Below w0.heap.size w0 w8 by rw [hw]; exact Zh (Zh HB.out GEK.out) GEK.out); have n3_ := Aside0.mk (show w8.heap[gb234]? = some (.cells #[.int .i64 a0_0, .slice A0_1 l0_1.length c0_1] 27 (0, 0)) by rw [hw]; exact ZK (ZK BK234.out HNN.out _) HNN.out _); have m0_ := Aside0.mk (show w8.heap[B]? = w.heap[B]? by rw [hw]; exact (Below.heap_setCell _ _ _ B (fun e_ => HNK.out e_.symm)).trans ((Below.heap_setCell _ _ _ B (fun e_ => HNK.out e_.symm)).trans HE.out)); have m1_ := Aside0.mk (show KM (winsG a0_0 l0_1) w8 B from (HM.out).step (m0_.out.trans HE.out.symm)); have m2_ := Aside0.mk (show Kept w w8 (fun k_ => k_ = B) by rw [hw]; exact (HKB.out.setCell (.inr HWK.out) _).setCell (.inr HWK.out) _); clear HB HM HE HKB BK234 BKK hfk_0 hfk_1 hck_0 hck_1 hcz6_0 hcz6_1 hfz6_0 hfz6_1; have HB := n0_; have BKK := n1_; have BK234 := n3_; have HE := m0_; have HM := m1_; have HKB := m2_; clear n0_ n1_ n3_ m0_ m1_ m2_ hw; have hck_0 : w8.cell? ⟨gk, 0, none⟩ = some (.int .i64 a1) := (Za BKK.out 0).trans rfl; have hck_1 : w8.cell? ⟨gk, 1, none⟩ = some (.int .i64 a2) := (Za BKK.out 1).trans rfl; have hcz6_0 : w8.cell? ⟨gb234, 0, none⟩ = some (.int .i64 a0_0) := (Za BK234.out 0).trans rfl; have hcz6_1 : w8.cell? ⟨gb234, 1, none⟩ = some (.slice A0_1 l0_1.length c0_1) := (Za BK234.out 1).trans rfl; have hfz6_0 := Zb BK234.out 0; have hfz6_1 := Zb BK234.out 1) | (at_lookup; refine km_lookup rfl _ _ 68 rfl (mv := .map (some B)) (xv := .agg #[.int .i64 a1, .int .i64 a2]) rfl rfl (hlook _ (by first | exact HE.out | (show _ = _; exact HE.out))) ?_))
    go_ret
    exact ⟨er_, hB_, by (with_reducible repeat (first | refine KM.drewN ?_ _ | refine KM.drew ?_ | refine KM.alloc ?_ _)); exact HM.out, by (with_reducible repeat (first | refine Kept.drewN ?_ _ | refine Kept.drew ?_ | refine Kept.alloc ?_ _)); exact HKB.out⟩
  go_enter Try.func62, Try.ntmps62
  go_wp2_with (first | ((with_reducible refine ZD (N := 4) rfl ?_); refine ZH ?hg (N := 4) ?hd (cs := #[.int .i64 a0_0, .slice A0_1 l0_1.length c0_1]) (t := 27) ?hr ?_; (case hd => rfl); (case hg => rfl); (case hr => first | (go_simp; done) | (go_simp; rfl)); intro gb234 hg w5 hbox hb; have n0_ := Aside0.mk (Ze hB_ hb); have n1_ := Aside0.mk (hbox); have n2_ := Aside0.mk ((hz_ hg : w0.heap.size ≤ gb234)); have n3_ := Aside0.mk ((hz_ hg : w0.heap.size ≤ gb234)); have m0_ := Aside0.mk ((hb.block B HM.out.lt).trans HE.out); have m1_ := Aside0.mk (HM.out.below hb); have m2_ := Aside0.mk (HKB.out.below hb); have HNG := Aside0.mk (show gb234 ≠ B by have := HM.out.lt; omega); clear HB HM HE HKB; have HB := n0_; have HE := m0_; have HM := m1_; have HKB := m2_; clear m0_ m1_ m2_; have BK234 := n1_; have GW234 := n2_; have GE234 := n3_; clear n0_ n1_ n2_ n3_; clear hb hbox hg; have hcz6_0 : w5.cell? ⟨gb234, 0, none⟩ = some (.int .i64 a0_0) := (Za BK234.out 0).trans rfl; have hcz6_1 : w5.cell? ⟨gb234, 1, none⟩ = some (.slice A0_1 l0_1.length c0_1) := (Za BK234.out 1).trans rfl; have hfz6_0 := Zb BK234.out 0; have hfz6_1 := Zb BK234.out 1) | ((with_reducible refine ZD (N := 9) rfl ?_); refine ZH ?hg (N := 9) ?hd (cs := #[.int .i64 0, .int .i64 0]) (t := 87) ?hr ?_; (case hd => rfl); (case hg => rfl); (case hr => first | (go_simp; done) | (go_simp; rfl)); intro gk hg w6 hbox hb; have HGK := Aside0.mk (Zl HB.out); have n0_ := Aside0.mk (Ze HB.out hb); have n1_ := Aside0.mk hbox; have n2_ := Aside0.mk (show w0.heap.size ≤ gk by rw [hg]; exact HGK.out); have n3_ := Aside0.mk (Zc (g := gb234) (o := .cells #[.int .i64 a0_0, .slice A0_1 l0_1.length c0_1] 27 (0, 0)) BK234.out hb); have m0_ := Aside0.mk ((hb.block B HM.out.lt).trans HE.out); have m1_ := Aside0.mk (HM.out.below hb); have m2_ := Aside0.mk (HKB.out.below hb); have HNK := Aside0.mk (show gk ≠ B by have := HM.out.lt; omega); have HNN := Aside0.mk (show gb234 ≠ gk by have := blk_lt BK234.out; omega); have HWK := Aside0.mk (show w.heap.size ≤ gk by have := HKB.out.1; omega); clear HB HM HE HKB BK234 HGK; have HB := n0_; have BKK := n1_; have GEK := n2_; have BK234 := n3_; have HE := m0_; have HM := m1_; have HKB := m2_; clear n0_ n1_ n2_ n3_ m0_ m1_ m2_ hb hbox hg; have hfk_0 := Zb BKK.out 0; have hfk_1 := Zb BKK.out 1; have hck_0 : w6.cell? ⟨gk, 0, none⟩ = some (.int .i64 0) := (Za BKK.out 0).trans rfl; have hck_1 : w6.cell? ⟨gk, 1, none⟩ = some (.int .i64 0) := (Za BKK.out 1).trans rfl) | ((with_reducible refine gate_store (t := 87) (p := 9) rfl ?_); refine store_event (t := 87) (p := 9) (v := ?vo_8) (w1 := ((w6.setCell ⟨gk, 0, none⟩ (.int .i64 a1)).setCell ⟨gk, 1, none⟩ (.int .i64 a2))) ?hg ?ho ?hn ?hr ?_; (case ho => rfl); (case hg => rfl); (case hn => rfl); (case hr => first | (go_simp; done) | (go_simp; rfl)); intro w8 hw; have n1_ := Aside0.mk (show w8.heap[gk]? = some (.cells #[.int .i64 a1, .int .i64 a2] 87 (0, 0)) by rw [hw]; exact ZT (cs := #[.int .i64 a1, .int .i64 0]) (ZT (cs := #[.int .i64 0, .int .i64 0]) BKK.out 0 _ rfl) 1 _ rfl); have n0_ := Aside0.mk (show Below w0.heap.size w0 w8 by rw [hw]; exact Zh (Zh HB.out GEK.out) GEK.out); have n3_ := Aside0.mk (show w8.heap[gb234]? = some (.cells #[.int .i64 a0_0, .slice A0_1 l0_1.length c0_1] 27 (0, 0)) by rw [hw]; exact ZK (ZK BK234.out HNN.out _) HNN.out _); have m0_ := Aside0.mk (show w8.heap[B]? = w.heap[B]? by rw [hw]; exact (Below.heap_setCell _ _ _ B (fun e_ => HNK.out e_.symm)).trans ((Below.heap_setCell _ _ _ B (fun e_ => HNK.out e_.symm)).trans HE.out)); have m1_ := Aside0.mk (show KM (winsG a0_0 l0_1) w8 B from (HM.out).step (m0_.out.trans HE.out.symm)); have m2_ := Aside0.mk (show Kept w w8 (fun k_ => k_ = B) by rw [hw]; exact (HKB.out.setCell (.inr HWK.out) _).setCell (.inr HWK.out) _); clear HB HM HE HKB BK234 BKK hfk_0 hfk_1 hck_0 hck_1 hcz6_0 hcz6_1 hfz6_0 hfz6_1; have HB := n0_; have BKK := n1_; have BK234 := n3_; have HE := m0_; have HM := m1_; have HKB := m2_; clear n0_ n1_ n3_ m0_ m1_ m2_ hw; have hck_0 : w8.cell? ⟨gk, 0, none⟩ = some (.int .i64 a1) := (Za BKK.out 0).trans rfl; have hck_1 : w8.cell? ⟨gk, 1, none⟩ = some (.int .i64 a2) := (Za BKK.out 1).trans rfl; have hcz6_0 : w8.cell? ⟨gb234, 0, none⟩ = some (.int .i64 a0_0) := (Za BK234.out 0).trans rfl; have hcz6_1 : w8.cell? ⟨gb234, 1, none⟩ = some (.slice A0_1 l0_1.length c0_1) := (Za BK234.out 1).trans rfl; have hfz6_0 := Zb BK234.out 0; have hfz6_1 := Zb BK234.out 1) | (at_lookup; refine km_lookup rfl _ _ 68 rfl (mv := .map (some B)) (xv := .agg #[.int .i64 a1, .int .i64 a2]) rfl rfl (hlook _ (by first | exact HE.out | (show _ = _; exact HE.out))) ?_) | ((with_reducible refine Zj (f := 40) rfl ?_); refine ZE (some 31) rfl rfl Try.func40 (by kernel_rfl) rfl #[.agg #[.int .i64 a0_0, .slice A0_1 l0_1.length c0_1], .int .i64 a2] rfl ar_ ?_; (with_reducible refine (impl_AttackersOf.calls k a0_0 _ _ l0_1 a2 t235 _ ?side1 ?side2 A4.out).mono ?_); (case side1 => exact cb_ HR0_1.out); (case side2 => exact HC0_1.out); rintro e w7 ⟨v236, rfl, ho0, hb⟩; refine ⟨_, rfl, ?_⟩; have n0_ := Aside0.mk (ZI (km_row ho0 HM.out) (Zl hB_)); have n1_ := Aside0.mk (Zc (g := gb234) (o := .cells #[.int .i64 a0_0, .slice A0_1 l0_1.length c0_1] 27 (0, 0)) (bk_ BK234.out) hb); have n2_ := Aside0.mk (Ze hB_ hb); have n5_ := Aside0.mk (Zc (g := gk) (o := .cells #[.int .i64 a1, .int .i64 a2] 87 (0, 0)) BKK.out hb); have m1_ := Aside0.mk (HM.out.below hb); have m2_ := Aside0.mk (HKB.out.below hb); clear BK234 BKK; clear HB HM HE HKB; have HO237 := n0_; have BKK := n5_; have HM := m1_; have HKB := m2_; clear n5_ m1_ m2_; have BK234 := n1_; have HB := n2_; clear n0_ n1_ n2_; (try clear hb); (try clear hb2); (try clear hk); (try clear hi); (try clear ho0); obtain ⟨Ao8, co8, eo8⟩ := ZP HO237.out; subst eo8))
  clear hlook
  go_loopg [12, 33] k (fun kq v12 v33 w' => ∃ (x12_1 : Bool) (x33_1 : Int), v12 = .bool x12_1 ∧ v33 = .int .i64 x33_1 ∧ Aside0 (impl_wins.l0 kq a1 x12_1 t235 (t235.length : Int) x33_1 a0_0 l0_1 = some r) ∧ Aside0 (kq ≤ k) ∧ Aside0 (Kd.R (Kd.int .i64) 3 w' w0.heap.size (fun k_ => k_ ≠ B) (.slice Ao8 t235.length co8) t235) ∧ Aside0 (w'.heap[gb234]? = some (.cells #[.int .i64 a0_0, (.slice A0_1 l0_1.length c0_1)] 27 (0, 0))) ∧ Aside0 (w'.heap[gk]? = some (.cells #[.int .i64 a1, .int .i64 a2] 87 (0, 0))) ∧ Aside0 (Below w0.heap.size w0 w') ∧ Aside0 (KM (winsG a0_0 l0_1) w' B) ∧ Aside0 (Kept w w' (fun k_ => k_ = B)))
  case atStart => exact ⟨(true), (0), sm_, sm_, H', ⟨Nat.le_refl _⟩, ⟨rR_ HO237.out⟩, ⟨bk_ BK234.out⟩, ⟨by (with_reducible repeat (first | refine Zg ?_ _ | refine Zd ?_ | refine Zf ?_ _)); exact BKK.out⟩, ⟨hB_⟩, ⟨by (with_reducible repeat (first | refine KM.drewN ?_ _ | refine KM.drew ?_ | refine KM.alloc ?_ _)); exact HM.out⟩, ⟨by (with_reducible repeat (first | refine Kept.drewN ?_ _ | refine Kept.drew ?_ | refine Kept.alloc ?_ _)); exact HKB.out⟩⟩
  case round =>
    clear H'
    try clear p2
    try clear c4
    try clear c6
    try clear hcz6_0
    try clear hcz6_1
    try clear hfz6_0
    try clear hfz6_1
    obtain ⟨x12_1, x33_1, rfl, rfl, HA, HK1, HO_31, BK234, BKK, HB, HM, HKB⟩ := hrel
    cases gk with
    | zero => exact absurd HA.out (by simp [impl_wins.l0])
    | succ k1 =>
      have H := HA.out
      clear HA
      simp only [impl_wins.l0] at H
      by_cases c9 : x33_1 < (t235.length : Int)
      · rw [if_pos c9] at H
        have c9b0 : decide (x33_1 < (t235.length : Int)) = true := decide_eq_true c9
        clear c9
        by_cases c10 : 0 ≤ x33_1
        · rw [if_pos c10] at H
          have c10b0 : decide (0 ≤ x33_1) = true := decide_eq_true c10
          clear c10
          by_cases c11 : x33_1 < (t235.length : Int)
          · rw [if_pos c11] at H
            have c11b0 : decide (x33_1 < (t235.length : Int)) = true := decide_eq_true c11
            clear c11
            replace H := Option.bind_eq_some_iff.mp H
            obtain ⟨t239, A120, H⟩ := H
            replace H : (impl_wins.l1 k1 a1 x12_1 false t235 (t235.length : Int) x33_1 t239 (t239.length : Int) 0 a0_0 l0_1) = some r := H
            have A12 := Aside0.mk A120
            clear A120
            have H' := Aside0.mk H
            clear H
            have p238 : 0 ≤ (x33_1 : Int) := of_decide_eq_true as_
            have q238 : x33_1 < (t235.length : Int) := of_decide_eq_true as_
            obtain ⟨ad238, e238, hx238_0⟩ := Zv (Zp HO_31.out).2.2 x33_1 p238 q238
            cases e238
            replace p238 := eq_true p238
            replace q238 := eq_true q238
            have hcz13_0 : wr.cell? ⟨gb234, 0, none⟩ = some (.int .i64 a0_0) := (Za BK234.out 0).trans rfl
            have hcz13_1 : wr.cell? ⟨gb234, 1, none⟩ = some (.slice A0_1 l0_1.length c0_1) := (Za BK234.out 1).trans rfl
            have hfz13_0 := Zb BK234.out 0
            have hfz13_1 := Zb BK234.out 1
            go_wp2_with (first | ((with_reducible refine Zj (f := 40) rfl ?_); refine ZE (some 39) rfl rfl Try.func40 (by kernel_rfl) rfl #[.agg #[.int .i64 a0_0, .slice A0_1 l0_1.length c0_1], .int .i64 (rd t235 x33_1)] rfl ar_ ?_; (with_reducible refine (impl_AttackersOf.calls k1 a0_0 _ _ l0_1 (rd t235 x33_1) t239 _ ?side1 ?side2 A12.out).mono ?_); (case side1 => exact cb_ HR0_1.out); (case side2 => exact HC0_1.out); rintro e w14 ⟨v240, rfl, ho0, hb⟩; refine ⟨_, rfl, ?_⟩; have n0_ := Aside0.mk (ZN (rR_ HO_31.out) hb); have n1_ := Aside0.mk (ZI (km_row ho0 HM.out) (Zl hB_)); have n2_ := Aside0.mk (Zc (g := gb234) (o := .cells #[.int .i64 a0_0, .slice A0_1 l0_1.length c0_1] 27 (0, 0)) (bk_ BK234.out) hb); have n3_ := Aside0.mk (Ze hB_ hb); have n5_ := Aside0.mk (Zc (g := gk) (o := .cells #[.int .i64 a1, .int .i64 a2] 87 (0, 0)) BKK.out hb); have m1_ := Aside0.mk (HM.out.below hb); have m2_ := Aside0.mk (HKB.out.below hb); clear HO_31; clear BK234 BKK; clear HB HM HKB; have HO_31 := n0_; have HO241 := n1_; have BKK := n5_; have HM := m1_; have HKB := m2_; clear n5_ m1_ m2_; have BK234 := n2_; have HB := n3_; clear n0_ n1_ n2_ n3_; (try clear hb); (try clear hb2); (try clear hk); (try clear hi); (try clear ho0); obtain ⟨Ao15, co15, eo15⟩ := ZP HO241.out; subst eo15))
            go_loopg [15, 41] k1 (fun kq v15 v41 w' => ∃ (x15_2 : Bool) (x41_2 : Int), v15 = .bool x15_2 ∧ v41 = .int .i64 x41_2 ∧ Aside0 (impl_wins.l1 kq a1 x12_1 x15_2 t235 (t235.length : Int) x33_1 t239 (t239.length : Int) x41_2 a0_0 l0_1 = some r) ∧ Aside0 (kq ≤ k1) ∧ Aside0 (Kd.R (Kd.int .i64) 3 w' w0.heap.size (fun k_ => k_ ≠ B) (.slice (some ad238) t235.length co8) t235) ∧ Aside0 (Kd.R (Kd.int .i64) 3 w' w0.heap.size (fun k_ => k_ ≠ B) (.slice Ao15 t239.length co15) t239) ∧ Aside0 (w'.heap[gb234]? = some (.cells #[.int .i64 a0_0, (.slice A0_1 l0_1.length c0_1)] 27 (0, 0))) ∧ Aside0 (w'.heap[gk]? = some (.cells #[.int .i64 a1, .int .i64 a2] 87 (0, 0))) ∧ Aside0 (Below w0.heap.size w0 w') ∧ Aside0 (KM (winsG a0_0 l0_1) w' B) ∧ Aside0 (Kept w w' (fun k_ => k_ = B)))
            case atStart => exact ⟨(false), (0), sm_, sm_, H', ⟨Nat.le_refl _⟩, ⟨rR_ HO_31.out⟩, ⟨rR_ HO241.out⟩, ⟨bk_ BK234.out⟩, ⟨by (with_reducible repeat (first | refine Zg ?_ _ | refine Zd ?_ | refine Zf ?_ _)); exact BKK.out⟩, ⟨hB_⟩, ⟨by (with_reducible repeat (first | refine KM.drewN ?_ _ | refine KM.drew ?_ | refine KM.alloc ?_ _)); exact HM.out⟩, ⟨by (with_reducible repeat (first | refine Kept.drewN ?_ _ | refine Kept.drew ?_ | refine Kept.alloc ?_ _)); exact HKB.out⟩⟩
            case round =>
              clear H'
              try clear c1
              try clear p2
              try clear q2
              try clear hx2
              try clear c4
              try clear c6
              try clear c9
              try clear c9b0
              try clear c10
              try clear c10b0
              try clear c11
              try clear c11b0
              try clear hcz13_0
              try clear hcz13_1
              try clear hcz6_0
              try clear hcz6_1
              try clear hfz13_0
              try clear hfz13_1
              try clear hfz6_0
              try clear hfz6_1
              try clear hx238_0
              try clear p2
              try clear p238
              try clear q238
              obtain ⟨x15_2, x41_2, rfl, rfl, HA, HK2, HO_31, HO_39, BK234, BKK, HB, HM, HKB⟩ := hrel
              cases gk with
              | zero => exact absurd HA.out (by simp [impl_wins.l1])
              | succ k2 =>
                have H := HA.out
                clear HA
                simp only [impl_wins.l1] at H
                by_cases c16 : x41_2 < (t239.length : Int)
                · rw [if_pos c16] at H
                  have c16b0 : decide (x41_2 < (t239.length : Int)) = true := decide_eq_true c16
                  clear c16
                  by_cases c17 : 0 ≤ x41_2
                  · rw [if_pos c17] at H
                    have c17b0 : decide (0 ≤ x41_2) = true := decide_eq_true c17
                    clear c17
                    by_cases c18 : x41_2 < (t239.length : Int)
                    · rw [if_pos c18] at H
                      have c18b0 : decide (x41_2 < (t239.length : Int)) = true := decide_eq_true c18
                      clear c18
                      by_cases c19 : 0 ≤ (rd t239 x41_2)
                      · rw [if_pos c19] at H
                        have c19b0 := eq_true c19
                        have c19b1 : decide (0 ≤ (rd t239 x41_2)) = true := decide_eq_true c19
                        clear c19
                        obtain ⟨ji20, hji20⟩ : ∃ j_ : Int, (shr .i64 a1 (rd t239 x41_2)) = j_ := ⟨_, rfl⟩
                        replace H : (if (Go.bits .and .i64 (ji20) 1) = 0 then ((impl_wins.f k2 a0_0 l0_1 (Go.bits .or .i64 a1 (shl .i64 1 (rd t239 x41_2))) (rd t239 x41_2)).bind fun t243 => (if t243 = true then (impl_wins.l0 k2 a1 x12_1 t235 (t235.length : Int) (wrap64 (x33_1 + 1)) a0_0 l0_1) else (impl_wins.l1 k2 a1 x12_1 x15_2 t235 (t235.length : Int) x33_1 t239 (t239.length : Int) (wrap64 (x41_2 + 1)) a0_0 l0_1))) else (impl_wins.l1 k2 a1 x12_1 x15_2 t235 (t235.length : Int) x33_1 t239 (t239.length : Int) (wrap64 (x41_2 + 1)) a0_0 l0_1)) = some r := by first | (rw [hji20] at H; exact H) | (simp only [hji20] at H ⊢; exact H)
                        have hji20_ : (a1 / 2 ^ min (rd t239 x41_2).toNat 64) = ji20 := hji20
                        have hji20z : (rd t239 x41_2) ≤ 64 → (a1 / 2 ^ (rd t239 x41_2).toNat) = ji20 := shr_small hji20
                        by_cases c21 : (Go.bits .and .i64 (ji20) 1) = 0
                        · rw [if_pos c21] at H
                          have c21b0 : ((Go.bits .and .i64 (ji20) 1) == 0) = true := beq_iff_eq.mpr c21
                          have c21b1 : ((Go.bits .and .i64 (ji20) 1) != 0) = false := bne_eq_false_iff_eq.mpr c21
                          clear c21
                          have c22b0 := eq_true (of_decide_eq_true as_ : 0 ≤ (rd t239 x41_2))
                          obtain ⟨ji23, hji23⟩ : ∃ j_ : Int, (shl .i64 1 (rd t239 x41_2)) = j_ := ⟨_, rfl⟩
                          replace H : ((impl_wins.f k2 a0_0 l0_1 (Go.bits .or .i64 a1 (ji23)) (rd t239 x41_2)).bind fun t243 => (if t243 = true then (impl_wins.l0 k2 a1 x12_1 t235 (t235.length : Int) (wrap64 (x33_1 + 1)) a0_0 l0_1) else (impl_wins.l1 k2 a1 x12_1 x15_2 t235 (t235.length : Int) x33_1 t239 (t239.length : Int) (wrap64 (x41_2 + 1)) a0_0 l0_1))) = some r := by first | (rw [hji23] at H; exact H) | (simp only [hji23] at H ⊢; exact H)
                          have hji23_ : (IntKind.i64.wrap (1 * 2 ^ min (rd t239 x41_2).toNat 64)) = ji23 := hji23
                          have hji23z : (rd t239 x41_2) ≤ 64 → (IntKind.i64.wrap (1 * 2 ^ (rd t239 x41_2).toNat)) = ji23 := shl_small hji23
                          have hji23u : (IntKind.i64.wrap (2 ^ min (rd t239 x41_2).toNat 64)) = ji23 := by have h_ := hji23_; rw [Int.one_mul] at h_; exact h_
                          have hji23v : (rd t239 x41_2) ≤ 64 → (IntKind.i64.wrap (2 ^ (rd t239 x41_2).toNat)) = ji23 := fun hle_ => by have h_ := hji23z hle_; rw [Int.one_mul] at h_; exact h_
                          have hji23y : (wrap64 (1 * 2 ^ min (rd t239 x41_2).toNat 64)) = ji23 := (i64_w _).symm.trans hji23_
                          have hji23x : (rd t239 x41_2) ≤ 64 → (wrap64 (1 * 2 ^ (rd t239 x41_2).toNat)) = ji23 := fun h_ => (i64_w _).symm.trans (hji23z h_)
                          replace H := Option.bind_eq_some_iff.mp H
                          obtain ⟨t243, A240, H⟩ := H
                          replace H : (if t243 = true then (impl_wins.l0 k2 a1 x12_1 t235 (t235.length : Int) (wrap64 (x33_1 + 1)) a0_0 l0_1) else (impl_wins.l1 k2 a1 x12_1 x15_2 t235 (t235.length : Int) x33_1 t239 (t239.length : Int) (wrap64 (x41_2 + 1)) a0_0 l0_1)) = some r := H
                          have A24 := Aside0.mk A240
                          clear A240
                          by_cases c25 : t243 = true
                          · subst c25
                            have H1 : (impl_wins.l0 k2 a1 x12_1 t235 (t235.length : Int) (wrap64 (x33_1 + 1)) a0_0 l0_1) = some r := by rw [if_pos rfl] at H; exact H
                            clear H
                            have H := H1
                            clear H1
                            have H' := Aside0.mk H
                            clear H
                            have p242 : 0 ≤ (x41_2 : Int) := of_decide_eq_true as_
                            have q242 : x41_2 < (t239.length : Int) := of_decide_eq_true as_
                            obtain ⟨ad242, e242, hx242_0⟩ := Zv (Zp HO_39.out).2.2 x41_2 p242 q242
                            cases e242
                            replace p242 := eq_true p242
                            replace q242 := eq_true q242
                            try go_wp2
                            have n0_ := Aside0.mk (ZR HO_31.out)
                            have n1_ := Aside0.mk (ZR HO_39.out)
                            have n2_ := Aside0.mk (Zd BK234.out)
                            have n3_ := Aside0.mk (Zi HB.out)
                            have n5_ := Aside0.mk (Zd BKK.out)
                            have m1_ := Aside0.mk (HM.out.drew)
                            have m2_ := Aside0.mk (HKB.out.drew)
                            clear BKK HM HKB
                            have BKK := n5_
                            have HM := m1_
                            have HKB := m2_
                            clear n5_ m1_ m2_
                            clear HO_31
                            clear HO_39
                            clear BK234
                            clear HB
                            have HO_31 := n0_
                            have HO_39 := n1_
                            have BK234 := n2_
                            have HB := n3_
                            clear n0_ n1_ n2_ n3_
                            refine start_ (n := 15) (S := fun w' => w'.cell? ⟨gb234, 0, none⟩ = some (.int .i64 a0_0) ∧ w'.cell? ⟨gb234, 1, none⟩ = some (.slice A0_1 l0_1.length c0_1)) (ds := []) #[O,O,O,O,O,O,O,O,O,O,O,O,O,O,O] (by kernel_rfl) rfl rfl ⟨(Za BK234.out 0).trans rfl, (Za BK234.out 1).trans rfl⟩ (fun hHeld => ?_); refine with_tabW impl_wins.tab13 impl_wins.bits13 (fun HT_ HW_ => ?_)
                            generalize wr.drew = w26 at HO_31 HO_39 BK234 BKK HB HM HKB hHeld ⊢
                            refine pu_ 0 45 #[Y,O,O,O,O,O,O,O,O,O,O,O,O,O,O] ?_
                            refine pu_ 1 46 #[Y,Y,O,O,O,O,O,O,O,O,O,O,O,O,O] ?_
                            refine pu_ 2 47 #[Y,Y,Y,O,O,O,O,O,O,O,O,O,O,O,O] ?_
                            refine pu_ 3 48 #[Y,Y,Y,Y,O,O,O,O,O,O,O,O,O,O,O] ?_
                            refine pu_ 4 49 #[Y,Y,Y,Y,Y,O,O,O,O,O,O,O,O,O,O] ?_
                            refine pu_ 5 50 #[Y,Y,Y,Y,Y,Y,O,O,O,O,O,O,O,O,O] ?_
                            refine pu_ 7 52 #[Y,Y,Y,Y,Y,Y,O,Y,O,O,O,O,O,O,O] ?_
                            refine pu_ 8 53 #[Y,Y,Y,Y,Y,Y,O,Y,Y,O,O,O,O,O,O] ?_
                            refine pu_ 9 54 #[Y,Y,Y,Y,Y,Y,O,Y,Y,Y,O,O,O,O,O] ?_
                            refine pu_ 10 55 #[Y,Y,Y,Y,Y,Y,O,Y,Y,Y,Y,O,O,O,O] ?_
                            refine pu_ 11 56 #[Y,Y,Y,Y,Y,Y,O,Y,Y,Y,Y,Y,O,O,O] ?_
                            refine pu_ 12 57 #[Y,Y,Y,Y,Y,Y,O,Y,Y,Y,Y,Y,Y,O,O] ?_
                            refine tk2_ 6 51 #[Y,Y,Y,Y,Y,Y,Y,Y,Y,Y,Y,Y,Y,O,O] hHeld ?_
                            refine on_ 13 58 #[Y,Y,Y,Y,Y,Y,Y,Y,Y,Y,Y,Y,Y,Y,O] (fun K hK => ?_)
                            refine goes_ Try.func62 (by kernel_rfl) rfl #[.agg #[.int .i64 a0_0, .slice A0_1 l0_1.length c0_1], .int .i64 (Go.bits .or .i64 a1 (ji23)), .int .i64 (rd t239 x41_2), .map (some B)] (by rfl) rfl rfl (by (try simp only [List.map_toArray, List.map_cons, List.map_nil]); first | done | (simp only [hji23]; rfl) | rfl | (simp only [List.length_drop, List.length_take]; rfl)) ?_
                            with_reducible refine (ih k2 (by have := HK1.out; have := HK2.out; omega) a0_0 _ _ l0_1 (Go.bits .or .i64 a1 (ji23)) (rd t239 x41_2) B true w0 _ ?side1 ?side2 ?side3 ?side4 ?side5 A24.out).mono ?_
                            (case side1 => exact hB_)
                            (case side2 => exact HBB.out)
                            (case side3 => (with_reducible repeat (first | refine KM.drewN ?_ _ | refine KM.drew ?_ | refine KM.alloc ?_ _)); exact HM.out)
                            (case side4 => exact HR0_1.out)
                            (case side5 => exact HC0_1.out)
                            rintro e w27 ⟨rfl, hb, hmr, hkr⟩
                            refine ⟨_, rfl, ?_⟩
                            have n0_ := Aside0.mk (Kd.R_kept (ok := fun k_ => k_ ≠ B) (rR_ HO_31.out) hkr (fun k_ h1_ h2_ => h1_ h2_))
                            have n1_ := Aside0.mk (Kd.R_kept (ok := fun k_ => k_ ≠ B) (rR_ HO_39.out) hkr (fun k_ h1_ h2_ => h1_ h2_))
                            have n2_ := Aside0.mk (blk_kept (g := gb234) (o := .cells #[.int .i64 a0_0, .slice A0_1 l0_1.length c0_1] 27 (0, 0)) (bk_ BK234.out) hkr HNG.out)
                            have n3_ := Aside0.mk hb
                            have n5_ := Aside0.mk (blk_kept (g := gk) (o := .cells #[.int .i64 a1, .int .i64 a2] 87 (0, 0)) (by (with_reducible repeat (first | refine Zg ?_ _ | refine Zd ?_ | refine Zf ?_ _)); exact BKK.out) hkr HNK.out)
                            have m1_ := Aside0.mk hmr
                            have m2_ := Aside0.mk (Kept.then_ (by (with_reducible repeat (first | refine Kept.drewN ?_ _ | refine Kept.drew ?_ | refine Kept.alloc ?_ _)); exact HKB.out) hkr (fun _ h_ => .inl h_))
                            clear BKK HM HKB
                            have BKK := n5_
                            have HM := m1_
                            have HKB := m2_
                            clear n5_ m1_ m2_ hmr hkr
                            clear HO_31
                            clear HO_39
                            clear BK234
                            clear HB
                            have HO_31 := n0_
                            have HO_39 := n1_
                            have BK234 := n2_
                            have HB := n3_
                            clear n0_ n1_ n2_ n3_
                            (try clear hb)
                            (try clear hb2)
                            (try clear hk)
                            (try clear hi)
                            refine hK.out _ _ ⟨(Za BK234.out 0).trans rfl, (Za BK234.out 1).trans rfl⟩ (fun hHeld => ?_)
                            clear hK K
                            refine no_ 58 ?_
                            refine pu_ 14 59 #[Y,Y,Y,Y,Y,Y,Y,Y,Y,Y,Y,Y,Y,Y,Y] ?_
                            refine done_ (done_of HT_.out (by kernel_rfl)) ?_
                            try go_wp2
                            go_roundg k2
                            case measure => have := HK1.out; have := HK2.out; omega
                            case rel => exact ⟨(x12_1), (wrap64 (x33_1 + 1)), sm_, sm_, H', ⟨by have := HK1.out; have := HK2.out; omega⟩, ⟨rR_ HO_31.out⟩, ⟨bk_ BK234.out⟩, ⟨by (with_reducible repeat (first | refine Zg ?_ _ | refine Zd ?_ | refine Zf ?_ _)); exact BKK.out⟩, ⟨hB_⟩, ⟨by (with_reducible repeat (first | refine KM.drewN ?_ _ | refine KM.drew ?_ | refine KM.alloc ?_ _)); exact HM.out⟩, ⟨by (with_reducible repeat (first | refine Kept.drewN ?_ _ | refine Kept.drew ?_ | refine Kept.alloc ?_ _)); exact HKB.out⟩⟩
                          · replace c25 := Bool.eq_false_iff.mpr c25
                            subst c25
                            have H1 : (impl_wins.l1 k2 a1 x12_1 x15_2 t235 (t235.length : Int) x33_1 t239 (t239.length : Int) (wrap64 (x41_2 + 1)) a0_0 l0_1) = some r := by rw [if_neg (show ¬ (false = true) by decide)] at H; exact H
                            clear H
                            have H := H1
                            clear H1
                            have H' := Aside0.mk H
                            clear H
                            have p242 : 0 ≤ (x41_2 : Int) := of_decide_eq_true as_
                            have q242 : x41_2 < (t239.length : Int) := of_decide_eq_true as_
                            obtain ⟨ad242, e242, hx242_0⟩ := Zv (Zp HO_39.out).2.2 x41_2 p242 q242
                            cases e242
                            replace p242 := eq_true p242
                            replace q242 := eq_true q242
                            try go_wp2
                            have n0_ := Aside0.mk (ZR HO_31.out)
                            have n1_ := Aside0.mk (ZR HO_39.out)
                            have n2_ := Aside0.mk (Zd BK234.out)
                            have n3_ := Aside0.mk (Zi HB.out)
                            have n5_ := Aside0.mk (Zd BKK.out)
                            have m1_ := Aside0.mk (HM.out.drew)
                            have m2_ := Aside0.mk (HKB.out.drew)
                            clear BKK HM HKB
                            have BKK := n5_
                            have HM := m1_
                            have HKB := m2_
                            clear n5_ m1_ m2_
                            clear HO_31
                            clear HO_39
                            clear BK234
                            clear HB
                            have HO_31 := n0_
                            have HO_39 := n1_
                            have BK234 := n2_
                            have HB := n3_
                            clear n0_ n1_ n2_ n3_
                            refine start_ (n := 15) (S := fun w' => w'.cell? ⟨gb234, 0, none⟩ = some (.int .i64 a0_0) ∧ w'.cell? ⟨gb234, 1, none⟩ = some (.slice A0_1 l0_1.length c0_1)) (ds := []) #[O,O,O,O,O,O,O,O,O,O,O,O,O,O,O] (by kernel_rfl) rfl rfl ⟨(Za BK234.out 0).trans rfl, (Za BK234.out 1).trans rfl⟩ (fun hHeld => ?_); refine with_tabW impl_wins.tab13 impl_wins.bits13 (fun HT_ HW_ => ?_)
                            generalize wr.drew = w28 at HO_31 HO_39 BK234 BKK HB HM HKB hHeld ⊢
                            refine pu_ 0 45 #[Y,O,O,O,O,O,O,O,O,O,O,O,O,O,O] ?_
                            refine pu_ 1 46 #[Y,Y,O,O,O,O,O,O,O,O,O,O,O,O,O] ?_
                            refine pu_ 2 47 #[Y,Y,Y,O,O,O,O,O,O,O,O,O,O,O,O] ?_
                            refine pu_ 3 48 #[Y,Y,Y,Y,O,O,O,O,O,O,O,O,O,O,O] ?_
                            refine pu_ 4 49 #[Y,Y,Y,Y,Y,O,O,O,O,O,O,O,O,O,O] ?_
                            refine pu_ 5 50 #[Y,Y,Y,Y,Y,Y,O,O,O,O,O,O,O,O,O] ?_
                            refine pu_ 7 52 #[Y,Y,Y,Y,Y,Y,O,Y,O,O,O,O,O,O,O] ?_
                            refine pu_ 8 53 #[Y,Y,Y,Y,Y,Y,O,Y,Y,O,O,O,O,O,O] ?_
                            refine pu_ 9 54 #[Y,Y,Y,Y,Y,Y,O,Y,Y,Y,O,O,O,O,O] ?_
                            refine pu_ 10 55 #[Y,Y,Y,Y,Y,Y,O,Y,Y,Y,Y,O,O,O,O] ?_
                            refine pu_ 11 56 #[Y,Y,Y,Y,Y,Y,O,Y,Y,Y,Y,Y,O,O,O] ?_
                            refine pu_ 12 57 #[Y,Y,Y,Y,Y,Y,O,Y,Y,Y,Y,Y,Y,O,O] ?_
                            refine tk2_ 6 51 #[Y,Y,Y,Y,Y,Y,Y,Y,Y,Y,Y,Y,Y,O,O] hHeld ?_
                            refine on_ 13 58 #[Y,Y,Y,Y,Y,Y,Y,Y,Y,Y,Y,Y,Y,Y,O] (fun K hK => ?_)
                            refine goes_ Try.func62 (by kernel_rfl) rfl #[.agg #[.int .i64 a0_0, .slice A0_1 l0_1.length c0_1], .int .i64 (Go.bits .or .i64 a1 (ji23)), .int .i64 (rd t239 x41_2), .map (some B)] (by rfl) rfl rfl (by (try simp only [List.map_toArray, List.map_cons, List.map_nil]); first | done | (simp only [hji23]; rfl) | rfl | (simp only [List.length_drop, List.length_take]; rfl)) ?_
                            with_reducible refine (ih k2 (by have := HK1.out; have := HK2.out; omega) a0_0 _ _ l0_1 (Go.bits .or .i64 a1 (ji23)) (rd t239 x41_2) B false w0 _ ?side1 ?side2 ?side3 ?side4 ?side5 A24.out).mono ?_
                            (case side1 => exact hB_)
                            (case side2 => exact HBB.out)
                            (case side3 => (with_reducible repeat (first | refine KM.drewN ?_ _ | refine KM.drew ?_ | refine KM.alloc ?_ _)); exact HM.out)
                            (case side4 => exact HR0_1.out)
                            (case side5 => exact HC0_1.out)
                            rintro e w29 ⟨rfl, hb, hmr, hkr⟩
                            refine ⟨_, rfl, ?_⟩
                            have n0_ := Aside0.mk (Kd.R_kept (ok := fun k_ => k_ ≠ B) (rR_ HO_31.out) hkr (fun k_ h1_ h2_ => h1_ h2_))
                            have n1_ := Aside0.mk (Kd.R_kept (ok := fun k_ => k_ ≠ B) (rR_ HO_39.out) hkr (fun k_ h1_ h2_ => h1_ h2_))
                            have n2_ := Aside0.mk (blk_kept (g := gb234) (o := .cells #[.int .i64 a0_0, .slice A0_1 l0_1.length c0_1] 27 (0, 0)) (bk_ BK234.out) hkr HNG.out)
                            have n3_ := Aside0.mk hb
                            have n5_ := Aside0.mk (blk_kept (g := gk) (o := .cells #[.int .i64 a1, .int .i64 a2] 87 (0, 0)) (by (with_reducible repeat (first | refine Zg ?_ _ | refine Zd ?_ | refine Zf ?_ _)); exact BKK.out) hkr HNK.out)
                            have m1_ := Aside0.mk hmr
                            have m2_ := Aside0.mk (Kept.then_ (by (with_reducible repeat (first | refine Kept.drewN ?_ _ | refine Kept.drew ?_ | refine Kept.alloc ?_ _)); exact HKB.out) hkr (fun _ h_ => .inl h_))
                            clear BKK HM HKB
                            have BKK := n5_
                            have HM := m1_
                            have HKB := m2_
                            clear n5_ m1_ m2_ hmr hkr
                            clear HO_31
                            clear HO_39
                            clear BK234
                            clear HB
                            have HO_31 := n0_
                            have HO_39 := n1_
                            have BK234 := n2_
                            have HB := n3_
                            clear n0_ n1_ n2_ n3_
                            (try clear hb)
                            (try clear hb2)
                            (try clear hk)
                            (try clear hi)
                            refine hK.out _ _ ⟨(Za BK234.out 0).trans rfl, (Za BK234.out 1).trans rfl⟩ (fun hHeld => ?_)
                            clear hK K
                            refine no_ 58 ?_
                            refine pu_ 14 59 #[Y,Y,Y,Y,Y,Y,Y,Y,Y,Y,Y,Y,Y,Y,Y] ?_
                            refine done_ (done_of HT_.out (by kernel_rfl)) ?_
                            try go_wp2
                            go_roundg k2
                            case measure => have := HK1.out; have := HK2.out; omega
                            case rel => exact ⟨(x15_2), (wrap64 (x41_2 + 1)), sm_, sm_, H', ⟨by have := HK1.out; have := HK2.out; omega⟩, ⟨rR_ HO_31.out⟩, ⟨rR_ HO_39.out⟩, ⟨bk_ BK234.out⟩, ⟨by (with_reducible repeat (first | refine Zg ?_ _ | refine Zd ?_ | refine Zf ?_ _)); exact BKK.out⟩, ⟨hB_⟩, ⟨by (with_reducible repeat (first | refine KM.drewN ?_ _ | refine KM.drew ?_ | refine KM.alloc ?_ _)); exact HM.out⟩, ⟨by (with_reducible repeat (first | refine Kept.drewN ?_ _ | refine Kept.drew ?_ | refine Kept.alloc ?_ _)); exact HKB.out⟩⟩
                        · rw [if_neg c21] at H
                          have c21b0 : ((Go.bits .and .i64 (ji20) 1) == 0) = false := beq_eq_false_iff_ne.mpr c21
                          have c21b1 : ((Go.bits .and .i64 (ji20) 1) != 0) = true := bne_iff_ne.mpr c21
                          have H' := Aside0.mk H
                          clear H
                          have p242 : 0 ≤ (x41_2 : Int) := of_decide_eq_true as_
                          have q242 : x41_2 < (t239.length : Int) := of_decide_eq_true as_
                          obtain ⟨ad242, e242, hx242_0⟩ := Zv (Zp HO_39.out).2.2 x41_2 p242 q242
                          cases e242
                          replace p242 := eq_true p242
                          replace q242 := eq_true q242
                          try go_wp2
                          have n0_ := Aside0.mk (ZR HO_31.out)
                          have n1_ := Aside0.mk (ZR HO_39.out)
                          have n2_ := Aside0.mk (Zd BK234.out)
                          have n3_ := Aside0.mk (Zi HB.out)
                          have n5_ := Aside0.mk (Zd BKK.out)
                          have m1_ := Aside0.mk (HM.out.drew)
                          have m2_ := Aside0.mk (HKB.out.drew)
                          clear BKK HM HKB
                          have BKK := n5_
                          have HM := m1_
                          have HKB := m2_
                          clear n5_ m1_ m2_
                          clear HO_31
                          clear HO_39
                          clear BK234
                          clear HB
                          have HO_31 := n0_
                          have HO_39 := n1_
                          have BK234 := n2_
                          have HB := n3_
                          clear n0_ n1_ n2_ n3_
                          refine start_ (n := 15) (S := fun w' => True) (ds := []) #[O,O,O,O,O,O,O,O,O,O,O,O,O,O,O] (by kernel_rfl) rfl rfl trivial (fun hHeld => ?_); refine with_tabW impl_wins.tab13 impl_wins.bits13 (fun HT_ HW_ => ?_)
                          generalize wr.drew = w30 at HO_31 HO_39 BK234 BKK HB HM HKB hHeld ⊢
                          refine pu_ 0 45 #[Y,O,O,O,O,O,O,O,O,O,O,O,O,O,O] ?_
                          refine pu_ 1 46 #[Y,Y,O,O,O,O,O,O,O,O,O,O,O,O,O] ?_
                          refine pu_ 2 47 #[Y,Y,Y,O,O,O,O,O,O,O,O,O,O,O,O] ?_
                          refine pu_ 3 48 #[Y,Y,Y,Y,O,O,O,O,O,O,O,O,O,O,O] ?_
                          refine pu_ 4 49 #[Y,Y,Y,Y,Y,O,O,O,O,O,O,O,O,O,O] ?_
                          refine pu_ 5 50 #[Y,Y,Y,Y,Y,Y,O,O,O,O,O,O,O,O,O] ?_
                          refine pn_ 6 51 #[Y,Y,Y,Y,Y,Y,Y,O,O,O,O,O,O,O,O] ?_
                          refine pn_ 7 52 #[Y,Y,Y,Y,Y,Y,Y,Y,O,O,O,O,O,O,O] ?_
                          refine pn_ 8 53 #[Y,Y,Y,Y,Y,Y,Y,Y,Y,O,O,O,O,O,O] ?_
                          refine pn_ 9 54 #[Y,Y,Y,Y,Y,Y,Y,Y,Y,Y,O,O,O,O,O] ?_
                          refine pn_ 10 55 #[Y,Y,Y,Y,Y,Y,Y,Y,Y,Y,Y,O,O,O,O] ?_
                          refine pn_ 11 56 #[Y,Y,Y,Y,Y,Y,Y,Y,Y,Y,Y,Y,O,O,O] ?_
                          refine pn_ 12 57 #[Y,Y,Y,Y,Y,Y,Y,Y,Y,Y,Y,Y,Y,O,O] ?_
                          refine pn_ 13 58 #[Y,Y,Y,Y,Y,Y,Y,Y,Y,Y,Y,Y,Y,Y,O] ?_
                          refine pu_ 14 59 #[Y,Y,Y,Y,Y,Y,Y,Y,Y,Y,Y,Y,Y,Y,Y] ?_
                          refine done_ (done_of HT_.out (by kernel_rfl)) ?_
                          try go_wp2
                          go_roundg k2
                          case measure => have := HK1.out; have := HK2.out; omega
                          case rel => exact ⟨(x15_2), (wrap64 (x41_2 + 1)), sm_, sm_, H', ⟨by have := HK1.out; have := HK2.out; omega⟩, ⟨rR_ HO_31.out⟩, ⟨rR_ HO_39.out⟩, ⟨bk_ BK234.out⟩, ⟨by (with_reducible repeat (first | refine Zg ?_ _ | refine Zd ?_ | refine Zf ?_ _)); exact BKK.out⟩, ⟨hB_⟩, ⟨by (with_reducible repeat (first | refine KM.drewN ?_ _ | refine KM.drew ?_ | refine KM.alloc ?_ _)); exact HM.out⟩, ⟨by (with_reducible repeat (first | refine Kept.drewN ?_ _ | refine Kept.drew ?_ | refine Kept.alloc ?_ _)); exact HKB.out⟩⟩
                      · rw [if_neg c19] at H
                        exact absurd H (by simp)
                    · rw [if_neg c18] at H
                      exact absurd H (by simp)
                  · rw [if_neg c17] at H
                    exact absurd H (by simp)
                · rw [if_neg c16] at H
                  have c16b0 : decide (x41_2 < (t239.length : Int)) = false := decide_eq_false c16
                  clear c16
                  by_cases c31 : x15_2 = true
                  · subst c31
                    have H1 : (impl_wins.l0 k2 a1 x12_1 t235 (t235.length : Int) (wrap64 (x33_1 + 1)) a0_0 l0_1) = some r := by rw [if_pos rfl] at H; exact H
                    clear H
                    have H := H1
                    clear H1
                    have H' := Aside0.mk H
                    clear H
                    go_wp2
                    go_roundg k2
                    case measure => have := HK1.out; have := HK2.out; omega
                    case rel => exact ⟨(x12_1), (wrap64 (x33_1 + 1)), sm_, sm_, H', ⟨by have := HK1.out; have := HK2.out; omega⟩, ⟨rR_ HO_31.out⟩, ⟨bk_ BK234.out⟩, ⟨by (with_reducible repeat (first | refine Zg ?_ _ | refine Zd ?_ | refine Zf ?_ _)); exact BKK.out⟩, ⟨hB_⟩, ⟨by (with_reducible repeat (first | refine KM.drewN ?_ _ | refine KM.drew ?_ | refine KM.alloc ?_ _)); exact HM.out⟩, ⟨by (with_reducible repeat (first | refine Kept.drewN ?_ _ | refine Kept.drew ?_ | refine Kept.alloc ?_ _)); exact HKB.out⟩⟩
                  · replace c31 := Bool.eq_false_iff.mpr c31
                    subst c31
                    have H1 : (some false) = some r := by rw [if_neg (show ¬ (false = true) by decide)] at H; exact H
                    clear H
                    have H := H1
                    clear H1
                    obtain rfl := Option.some.inj H
                    have hck_0 : wr.cell? ⟨gk, 0, none⟩ = some (.int .i64 a1) := (Za BKK.out 0).trans rfl
                    have hck_1 : wr.cell? ⟨gk, 1, none⟩ = some (.int .i64 a2) := (Za BKK.out 1).trans rfl
                    go_wp2_with (at_mapUpdate; refine km_update rfl _ _ _ 68 rfl rfl (u := a1) (c := a2) (b := false) rfl rfl rfl (show KM (winsG a0_0 l0_1) _ B by (with_reducible repeat (first | refine KM.drewN ?_ _ | refine KM.drew ?_ | refine KM.alloc ?_ _)); exact HM.out) HU.out HC.out HG.out ?_; intro ws hms hgs)
                    go_ret
                    exact ⟨er_, (show Below w0.heap.size w0 _ from ⟨hgs.os.trans HB.out.os, hgs.tape.trans HB.out.tape, hgs.output.trans HB.out.output, Nat.le_trans HB.out.size hgs.size, fun k_ hk_ => (hgs.block k_ (Nat.lt_of_lt_of_le hk_ HB.out.size) (fun e_ => by injection e_ with e_; have := HBB.out; omega)).trans (HB.out.block k_ hk_)⟩), hms, (Kept.of_grown hgs HKB.out (fun k_ e_ => by injection e_ with e_; exact .inl e_.symm))⟩
          · rw [if_neg c11] at H
            exact absurd H (by simp)
        · rw [if_neg c10] at H
          exact absurd H (by simp)
      · rw [if_neg c9] at H
        have c9b0 : decide (x33_1 < (t235.length : Int)) = false := decide_eq_false c9
        clear c9
        obtain rfl := Option.some.inj H
        have hck_0 : wr.cell? ⟨gk, 0, none⟩ = some (.int .i64 a1) := (Za BKK.out 0).trans rfl
        have hck_1 : wr.cell? ⟨gk, 1, none⟩ = some (.int .i64 a2) := (Za BKK.out 1).trans rfl
        go_wp2_with (at_mapUpdate; refine km_update rfl _ _ _ 68 rfl rfl (u := a1) (c := a2) (b := x12_1) rfl rfl rfl (show KM (winsG a0_0 l0_1) _ B by (with_reducible repeat (first | refine KM.drewN ?_ _ | refine KM.drew ?_ | refine KM.alloc ?_ _)); exact HM.out) HU.out HC.out HG.out ?_; intro ws hms hgs)
        go_ret
        exact ⟨er_, (show Below w0.heap.size w0 _ from ⟨hgs.os.trans HB.out.os, hgs.tape.trans HB.out.tape, hgs.output.trans HB.out.output, Nat.le_trans HB.out.size hgs.size, fun k_ hk_ => (hgs.block k_ (Nat.lt_of_lt_of_le hk_ HB.out.size) (fun e_ => by injection e_ with e_; have := HBB.out; omega)).trans (HB.out.block k_ hk_)⟩), hms, (Kept.of_grown hgs HKB.out (fun k_ e_ => by injection e_ with e_; exact .inl e_.symm))⟩

end Go.Proofs.Ytdlobolnajcfnaa.PFnGames
