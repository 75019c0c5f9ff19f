/- The library's contracts for slices.Sort and slices.Compact of ints, at this program's own numbers: what the kit's laying command hands to Lean, as plain text; no condition beyond the contracts'. -/
import Derived.Test.YtkmhkkhlbnhaaaaProg
import Derived.Shelf.Sort.Plain
import Derived.Shelf.Slices.In.SortNone
import Derived.Shelf.Slices.CompactI
import Derived.Shelf.SlSortCmp.Whole1
set_option linter.unusedVariables false
namespace Go.Proofs.YtkmhkkhlbnhaaaaSh
open Go.Shelf Go.RowKit Go.Lib
def laysSort_ren : Go.Shelf.Ren := ⟨fun | 189 => 109 | 125 => 91 | 257 => 116 | 128 => 106 | 129 => 107 | 294 => 118 | 295 => 119 | 296 => 120 | 297 => 121 | 298 => 122 | 299 => 123 | 216 => 124 | 300 => 125 | 301 => 126 | 328 => 127 | 329 => 112 | 330 => 113 | 331 => 128 | 332 => 129 | 215 => 108 | 343 => 130 | n => n, fun | 28 => 38 | 3 => 3 | 46 => 68 | 0 => 0 | 51 => 79 | 53 => 81 | 4 => 4 | 183 => 72 | 182 => 71 | 131 => 76 | 5 => 5 | 9 => 9 | 218 => 84 | 222 => 88 | 228 => 91 | 229 => 92 | n => n, fun | n => n⟩
theorem laysSort : Go.Proofs.Lays.n189 Try.prog laysSort_ren := {
  mixed := by kernel_rfl,
  f125 := Try.func91.trans (congrArg some (by kernel_rfl)),
  f128 := Try.func106.trans (congrArg some (by kernel_rfl)),
  f129 := Try.func107.trans (congrArg some (by kernel_rfl)),
  f189 := Try.func109.trans (congrArg some (by kernel_rfl)),
  f215 := Try.func108.trans (congrArg some (by kernel_rfl)),
  f216 := Try.func124.trans (congrArg some (by kernel_rfl)),
  f257 := Try.func116.trans (congrArg some (by kernel_rfl)),
  f294 := Try.func118.trans (congrArg some (by kernel_rfl)),
  f295 := Try.func119.trans (congrArg some (by kernel_rfl)),
  f296 := Try.func120.trans (congrArg some (by kernel_rfl)),
  f297 := Try.func121.trans (congrArg some (by kernel_rfl)),
  f298 := Try.func122.trans (congrArg some (by kernel_rfl)),
  f299 := Try.func123.trans (congrArg some (by kernel_rfl)),
  f300 := Try.func125.trans (congrArg some (by kernel_rfl)),
  f301 := Try.func126.trans (congrArg some (by kernel_rfl)),
  f328 := Try.func127.trans (congrArg some (by kernel_rfl)),
  f329 := Try.func112.trans (congrArg some (by kernel_rfl)),
  f330 := Try.func113.trans (congrArg some (by kernel_rfl)),
  f331 := Try.func128.trans (congrArg some (by kernel_rfl)),
  f332 := Try.func129.trans (congrArg some (by kernel_rfl)),
  f343 := Try.func130.trans (congrArg some (by kernel_rfl)),
  t0 := Try.underlying0,
  a0 := Try.isAgg0,
  z0 := Try.sizeOf0,
  v0 := Try.zeroValue0,
  t3 := Try.underlying3,
  a3 := Try.isAgg3,
  z3 := Try.sizeOf3,
  v3 := Try.zeroValue3,
  t4 := Try.underlying4,
  a4 := Try.isAgg4,
  z4 := Try.sizeOf4,
  v4 := Try.zeroValue4,
  t5 := Try.underlying5,
  a5 := Try.isAgg5,
  z5 := Try.sizeOf5,
  v5 := Try.zeroValue5,
  t9 := Try.underlying9,
  a9 := Try.isAgg9,
  z9 := Try.sizeOf9,
  v9 := Try.zeroValue9,
  t28 := Try.underlying38,
  a28 := Try.isAgg38,
  z28 := Try.sizeOf38,
  v28 := Try.zeroValue38,
  t46 := Try.underlying68,
  a46 := Try.isAgg68,
  z46 := Try.sizeOf68,
  v46 := Try.zeroValue68,
  t51 := Try.underlying79,
  a51 := Try.isAgg79,
  z51 := Try.sizeOf79,
  v51 := Try.zeroValue79,
  t53 := Try.underlying81,
  a53 := Try.isAgg81,
  z53 := Try.sizeOf81,
  v53 := Try.zeroValue81,
  t131 := Try.underlying76,
  a131 := Try.isAgg76,
  z131 := Try.sizeOf76,
  v131 := Try.zeroValue76,
  t182 := Try.underlying71,
  a182 := Try.isAgg71,
  z182 := Try.sizeOf71,
  v182 := Try.zeroValue71,
  t183 := Try.underlying72,
  a183 := Try.isAgg72,
  z183 := Try.sizeOf72,
  v183 := Try.zeroValue72,
  t218 := Try.underlying84,
  a218 := Try.isAgg84,
  z218 := Try.sizeOf84,
  v218 := Try.zeroValue84,
  t222 := Try.underlying88,
  a222 := Try.isAgg88,
  z222 := Try.sizeOf88,
  v222 := Try.zeroValue88,
  t228 := Try.underlying91,
  a228 := Try.isAgg91,
  z228 := Try.sizeOf91,
  v228 := Try.zeroValue91,
  t229 := Try.underlying92,
  a229 := Try.isAgg92,
  z229 := Try.sizeOf92,
  v229 := Try.zeroValue92 }
def laysCompact_ren : Go.Shelf.Ren := ⟨fun | 20 => 110 | n => n, fun | 22 => 38 | 3 => 3 | 4 => 4 | 0 => 0 | n => n, fun | n => n⟩
theorem laysCompact : Go.Proofs.Lays2.n20 Try.prog laysCompact_ren := {
  mixed := by kernel_rfl,
  f20 := Try.func110.trans (congrArg some (by kernel_rfl)),
  t0 := Try.underlying0,
  a0 := Try.isAgg0,
  z0 := Try.sizeOf0,
  v0 := Try.zeroValue0,
  t3 := Try.underlying3,
  a3 := Try.isAgg3,
  z3 := Try.sizeOf3,
  v3 := Try.zeroValue3,
  t4 := Try.underlying4,
  a4 := Try.isAgg4,
  z4 := Try.sizeOf4,
  v4 := Try.zeroValue4,
  t22 := Try.underlying38,
  a22 := Try.isAgg38,
  z22 := Try.sizeOf38,
  v22 := Try.zeroValue38,
  i3 := by kernel_rfl }
theorem sort_calls (blk off cap : Nat) (zs : List Int) (w : World) (hH : Go.Sort.Holds (Value.int .i64) w blk off zs.toArray) (hblk : blk < w.heap.size) (hsz : zs.length < 4611686018427387904) :
    Calls Try.prog 109 #[.slice (some ⟨blk, off, none⟩) zs.length cap] w fun e w' =>
      e = .returned (.tuple #[]) ∧ ∃ n os, w' = Go.Sort.grow (Go.Sort.putRow (Value.int .i64) (Go.Sort.ahead w n) blk off (zs.mergeSort fun x y => decide (x ≤ y)).toArray) os :=
  Any.slices_Sort_int laysSort blk off cap zs w hH hblk hsz
theorem sort_none (p : Option Addr) (cap : Nat) (w : World) : Calls Try.prog 109 #[.slice p 0 cap] w fun e w' => e = .returned (.tuple #[]) ∧ w' = w :=
  Any.slices_Sort_int_none laysSort p cap w
theorem compact_calls (blk off cap : Nat) (zs : List Int) (w : World) (hH : Go.Sort.Holds (Value.int .i64) w blk off zs.toArray) (hsz : zs.length ≤ 9223372036854775807) (hcap : zs.length ≤ cap) :
    Calls Try.prog 110 #[.slice (some ⟨blk, off, none⟩) zs.length cap] w fun e w' => e = .returned (.slice (some ⟨blk, off, none⟩) (Go.Lib.compact zs).length cap) ∧ ∃ q, w' = Go.Sort.putRow (Value.int .i64) (Go.Sort.ahead w q) blk off (Go.Lib.compact zs ++ List.replicate (zs.length - (Go.Lib.compact zs).length) 0).toArray :=
  Any.slices_Compact_int laysCompact blk off cap zs w hH hsz hcap
theorem compact_none (p : Option Addr) (cap : Nat) (w : World) : Calls Try.prog 110 #[.slice p 0 cap] w fun e w' => e = .returned (.slice p 0 cap) ∧ w' = w :=
  Any.slices_Compact_int_empty laysCompact p cap w
def laysSortFunc_ren : Go.Shelf.Ren := ⟨fun | 6 => 80 | 15 => 91 | 14 => 90 | 28 => 106 | 29 => 107 | 20 => 98 | 21 => 99 | 22 => 100 | 23 => 101 | 24 => 102 | 25 => 103 | 26 => 104 | 27 => 105 | 46 => 111 | 47 => 112 | 48 => 113 | 49 => 114 | 50 => 115 | 57 => 117 | n => n, fun | 22 => 22 | 24 => 38 | 25 => 63 | 3 => 3 | 39 => 68 | 0 => 0 | 53 => 79 | 55 => 81 | 4 => 4 | 46 => 72 | 45 => 71 | 50 => 76 | 5 => 5 | 9 => 9 | 66 => 84 | 70 => 88 | 76 => 91 | 77 => 92 | n => n, fun | n => n⟩
theorem laysSortFunc : Go.Proofs.SlLaysF.n6 Try.prog laysSortFunc_ren := {
  mixed := by kernel_rfl,
  f6 := ⟨ "slices.SortFunc[[][]int,[]int]", by decide, Try.func80.trans (congrArg some (by kernel_rfl))⟩,
  f14 := ⟨ "slices.pdqsortCmpFunc[[]int]", by decide, Try.func90.trans (congrArg some (by kernel_rfl))⟩,
  f15 := Try.func91.trans (congrArg some (by kernel_rfl)),
  f20 := ⟨ "slices.insertionSortCmpFunc[[]int]", by decide, Try.func98.trans (congrArg some (by kernel_rfl))⟩,
  f21 := ⟨ "slices.heapSortCmpFunc[[]int]", by decide, Try.func99.trans (congrArg some (by kernel_rfl))⟩,
  f22 := ⟨ "slices.breakPatternsCmpFunc[[]int]", by decide, Try.func100.trans (congrArg some (by kernel_rfl))⟩,
  f23 := ⟨ "slices.choosePivotCmpFunc[[]int]", by decide, Try.func101.trans (congrArg some (by kernel_rfl))⟩,
  f24 := ⟨ "slices.reverseRangeCmpFunc[[]int]", by decide, Try.func102.trans (congrArg some (by kernel_rfl))⟩,
  f25 := ⟨ "slices.partialInsertionSortCmpFunc[[]int]", by decide, Try.func103.trans (congrArg some (by kernel_rfl))⟩,
  f26 := ⟨ "slices.partitionEqualCmpFunc[[]int]", by decide, Try.func104.trans (congrArg some (by kernel_rfl))⟩,
  f27 := ⟨ "slices.partitionCmpFunc[[]int]", by decide, Try.func105.trans (congrArg some (by kernel_rfl))⟩,
  f28 := Try.func106.trans (congrArg some (by kernel_rfl)),
  f29 := Try.func107.trans (congrArg some (by kernel_rfl)),
  f46 := ⟨ "slices.siftDownCmpFunc[[]int]", by decide, Try.func111.trans (congrArg some (by kernel_rfl))⟩,
  f47 := Try.func112.trans (congrArg some (by kernel_rfl)),
  f48 := Try.func113.trans (congrArg some (by kernel_rfl)),
  f49 := ⟨ "slices.medianAdjacentCmpFunc[[]int]", by decide, Try.func114.trans (congrArg some (by kernel_rfl))⟩,
  f50 := ⟨ "slices.medianCmpFunc[[]int]", by decide, Try.func115.trans (congrArg some (by kernel_rfl))⟩,
  f57 := ⟨ "slices.order2CmpFunc[[]int]", by decide, Try.func117.trans (congrArg some (by kernel_rfl))⟩,
  t0 := Try.underlying0,
  a0 := Try.isAgg0,
  z0 := Try.sizeOf0,
  v0 := Try.zeroValue0,
  t3 := Try.underlying3,
  a3 := Try.isAgg3,
  z3 := Try.sizeOf3,
  v3 := Try.zeroValue3,
  t4 := Try.underlying4,
  a4 := Try.isAgg4,
  z4 := Try.sizeOf4,
  v4 := Try.zeroValue4,
  t5 := Try.underlying5,
  a5 := Try.isAgg5,
  z5 := Try.sizeOf5,
  v5 := Try.zeroValue5,
  t9 := Try.underlying9,
  a9 := Try.isAgg9,
  z9 := Try.sizeOf9,
  v9 := Try.zeroValue9,
  t22 := Try.underlying22,
  a22 := Try.isAgg22,
  z22 := Try.sizeOf22,
  v22 := Try.zeroValue22,
  a24 := Try.isAgg38,
  z24 := Try.sizeOf38,
  t25 := Try.underlying63,
  a25 := Try.isAgg63,
  z25 := Try.sizeOf63,
  v25 := Try.zeroValue63,
  t39 := Try.underlying68,
  a39 := Try.isAgg68,
  z39 := Try.sizeOf68,
  v39 := Try.zeroValue68,
  t45 := Try.underlying71,
  a45 := Try.isAgg71,
  z45 := Try.sizeOf71,
  v45 := Try.zeroValue71,
  t46 := Try.underlying72,
  a46 := Try.isAgg72,
  z46 := Try.sizeOf72,
  v46 := Try.zeroValue72,
  t50 := Try.underlying76,
  a50 := Try.isAgg76,
  z50 := Try.sizeOf76,
  v50 := Try.zeroValue76,
  t53 := Try.underlying79,
  a53 := Try.isAgg79,
  z53 := Try.sizeOf79,
  v53 := Try.zeroValue79,
  t55 := Try.underlying81,
  a55 := Try.isAgg81,
  z55 := Try.sizeOf81,
  v55 := Try.zeroValue81,
  t66 := Try.underlying84,
  a66 := Try.isAgg84,
  z66 := Try.sizeOf84,
  v66 := Try.zeroValue84,
  t70 := Try.underlying88,
  a70 := Try.isAgg88,
  z70 := Try.sizeOf88,
  v70 := Try.zeroValue88,
  t76 := Try.underlying91,
  a76 := Try.isAgg91,
  z76 := Try.sizeOf91,
  v76 := Try.zeroValue91,
  t77 := Try.underlying92,
  a77 := Try.isAgg92,
  z77 := Try.sizeOf92,
  v77 := Try.zeroValue92 }
set_option maxHeartbeats 2000000 in
theorem ins_none (p : Option Addr) (cap : Nat) (fv : Value) (w : World) : Calls Try.prog 98 #[.slice p 0 cap, .int .i64 0, .int .i64 0, fv] w fun e w' => e = .returned (.tuple #[]) ∧ w' = w := by
  go_enter Try.func98, Try.ntmps98
  go_wp2
  refine wp_loop_rounds 1 ?_
  rw [rounds_succ]
  go_wp2
  go_end0
  exact ⟨rfl, rfl⟩
set_option maxHeartbeats 2000000 in
theorem pdq_none (p : Option Addr) (cap : Nat) (lim : Int) (fv : Value) (w : World) : Calls Try.prog 90 #[.slice p 0 cap, .int .i64 0, .int .i64 0, .int .i64 lim, fv] w fun e w' => e = .returned (.tuple #[]) ∧ w' = w := by
  have hi := fun W => ins_none p cap fv W
  go_enter Try.func90, Try.ntmps90
  go_wp2
  refine wp_loop_rounds 1 ?_
  rw [rounds_succ]
  go_wp2_with (go_at_call 98; refine (hi _).mono ?_; rintro e w' ⟨rfl, rfl⟩)
  (try simp only [Exit.inBlock, Exit.then]); refine bodyPost_ret (results_none rfl _ _ _) rfl ?_
  exact ⟨rfl, rfl⟩
set_option maxHeartbeats 2000000 in
theorem sortf_none (p : Option Addr) (cap : Nat) (fv : Value) (w : World) : Calls Try.prog 80 #[.slice p 0 cap, fv] w fun e w' => e = .returned (.tuple #[]) ∧ w' = w := by
  have hp := fun lim W => pdq_none p cap lim fv W
  have hl : ∀ W, Calls Try.prog 91 #[.int .u64 0] W fun e w' => e = .returned (.int .i64 (Lib.bitLen 0 : Nat)) ∧ w' = W := fun W => by
    have L := laysSortFunc
    have h := Any.bits_Len (SlLaysF0.n15.bits (P := Try.prog) (ρ := laysSortFunc_ren) { L with }) 0 W (by omega) (by omega)
    exact h
  go_enter Try.func80, Try.ntmps80
  go_wp2_with (first | (go_at_call 91; refine (hl _).mono ?_; rintro e w' ⟨rfl, rfl⟩) | (go_at_call 90; refine (hp _ _).mono ?_; rintro e w' ⟨rfl, rfl⟩))
  go_end0
  exact ⟨rfl, rfl⟩
theorem sortf_calls {α : Type} [Inhabited α] (enc : α → Value) (h1 : OneCell enc) (cf : α → α → Int) (hO : Go.Sort.SWO (ltOf cf)) (g : Nat) (blk off cap : Nat) (d : Array α) (w : World)
    (eg : ∀ args w, (callFunc g args).run Try.prog w = .ok (.enter g args) w) (hcmp : CmpLays1 Try.prog g #[] enc cf blk off d.size w) (hH : Go.Sort.Holds enc w blk off d) (hblk : blk < w.heap.size) (hsz : d.size < 4611686018427387904) :
    Calls Try.prog 80 #[.slice (some ⟨blk, off, none⟩) d.size cap, .func (.func g) #[] #[]] w fun e w' =>
      e = .returned (.tuple #[]) ∧ ∃ d' n os, Go.Sort.PermIn 0 d.size d d' ∧ Go.Sort.SortedIn (ltOf cf) 0 d.size d' ∧ w' = sortWorld enc w blk off n d' os :=
  Any.slices_SortFunc laysSortFunc enc h1 cf hO g #[] blk off cap d w eg hcmp hH hblk hsz
end Go.Proofs.YtkmhkkhlbnhaaaaSh
