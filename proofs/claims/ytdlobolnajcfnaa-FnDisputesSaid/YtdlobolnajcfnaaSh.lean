/- The library's contracts for slices.Sort and slices.Compact of ints, at this program's own numbers: what the kit's laying command hands to Lean, as plain text; no condition beyond the contracts'. -/
import Derived.Test.YtdlobolnajcfnaaProg
import Derived.Shelf.Sort.Plain
import Derived.Shelf.Slices.In.SortNone
import Derived.Shelf.Slices.CompactI
import Derived.Shelf.SlSortCmp.Whole1
set_option linter.unusedVariables false
namespace Go.Proofs.YtdlobolnajcfnaaSh
open Go.Shelf Go.RowKit Go.Lib
def laysSort_ren : Go.Shelf.Ren := ⟨fun | 189 => 137 | 125 => 109 | 257 => 145 | 128 => 131 | 129 => 132 | 294 => 147 | 295 => 148 | 296 => 149 | 297 => 150 | 298 => 151 | 299 => 152 | 216 => 153 | 300 => 154 | 301 => 155 | 328 => 156 | 329 => 141 | 330 => 142 | 331 => 157 | 332 => 158 | 215 => 133 | 343 => 159 | n => n, fun | 28 => 31 | 3 => 3 | 46 => 91 | 0 => 0 | 51 => 104 | 53 => 106 | 4 => 4 | 183 => 97 | 182 => 96 | 131 => 101 | 5 => 5 | 9 => 9 | 218 => 110 | 222 => 114 | 228 => 117 | 229 => 118 | n => n, fun | n => n⟩
theorem laysSort : Go.Proofs.Lays.n189 Try.prog laysSort_ren := {
  mixed := by kernel_rfl,
  f125 := Try.func109.trans (congrArg some (by kernel_rfl)),
  f128 := Try.func131.trans (congrArg some (by kernel_rfl)),
  f129 := Try.func132.trans (congrArg some (by kernel_rfl)),
  f189 := Try.func137.trans (congrArg some (by kernel_rfl)),
  f215 := Try.func133.trans (congrArg some (by kernel_rfl)),
  f216 := Try.func153.trans (congrArg some (by kernel_rfl)),
  f257 := Try.func145.trans (congrArg some (by kernel_rfl)),
  f294 := Try.func147.trans (congrArg some (by kernel_rfl)),
  f295 := Try.func148.trans (congrArg some (by kernel_rfl)),
  f296 := Try.func149.trans (congrArg some (by kernel_rfl)),
  f297 := Try.func150.trans (congrArg some (by kernel_rfl)),
  f298 := Try.func151.trans (congrArg some (by kernel_rfl)),
  f299 := Try.func152.trans (congrArg some (by kernel_rfl)),
  f300 := Try.func154.trans (congrArg some (by kernel_rfl)),
  f301 := Try.func155.trans (congrArg some (by kernel_rfl)),
  f328 := Try.func156.trans (congrArg some (by kernel_rfl)),
  f329 := Try.func141.trans (congrArg some (by kernel_rfl)),
  f330 := Try.func142.trans (congrArg some (by kernel_rfl)),
  f331 := Try.func157.trans (congrArg some (by kernel_rfl)),
  f332 := Try.func158.trans (congrArg some (by kernel_rfl)),
  f343 := Try.func159.trans (congrArg some (by kernel_rfl)),
  t0 := Try.underlying0,
  a0 := Try.isAgg0,
  z0 := Try.sizeOf0,
  v0 := Try.zeroValue0,
  t3 := Try.underlying3,
  a3 := Try.isAgg3,
  z3 := Try.sizeOf3,
  v3 := Try.zeroValue3,
  t4 := Try.underlying4,
  a4 := Try.isAgg4,
  z4 := Try.sizeOf4,
  v4 := Try.zeroValue4,
  t5 := Try.underlying5,
  a5 := Try.isAgg5,
  z5 := Try.sizeOf5,
  v5 := Try.zeroValue5,
  t9 := Try.underlying9,
  a9 := Try.isAgg9,
  z9 := Try.sizeOf9,
  v9 := Try.zeroValue9,
  t28 := Try.underlying31,
  a28 := Try.isAgg31,
  z28 := Try.sizeOf31,
  v28 := Try.zeroValue31,
  t46 := Try.underlying91,
  a46 := Try.isAgg91,
  z46 := Try.sizeOf91,
  v46 := Try.zeroValue91,
  t51 := Try.underlying104,
  a51 := Try.isAgg104,
  z51 := Try.sizeOf104,
  v51 := Try.zeroValue104,
  t53 := Try.underlying106,
  a53 := Try.isAgg106,
  z53 := Try.sizeOf106,
  v53 := Try.zeroValue106,
  t131 := Try.underlying101,
  a131 := Try.isAgg101,
  z131 := Try.sizeOf101,
  v131 := Try.zeroValue101,
  t182 := Try.underlying96,
  a182 := Try.isAgg96,
  z182 := Try.sizeOf96,
  v182 := Try.zeroValue96,
  t183 := Try.underlying97,
  a183 := Try.isAgg97,
  z183 := Try.sizeOf97,
  v183 := Try.zeroValue97,
  t218 := Try.underlying110,
  a218 := Try.isAgg110,
  z218 := Try.sizeOf110,
  v218 := Try.zeroValue110,
  t222 := Try.underlying114,
  a222 := Try.isAgg114,
  z222 := Try.sizeOf114,
  v222 := Try.zeroValue114,
  t228 := Try.underlying117,
  a228 := Try.isAgg117,
  z228 := Try.sizeOf117,
  v228 := Try.zeroValue117,
  t229 := Try.underlying118,
  a229 := Try.isAgg118,
  z229 := Try.sizeOf118,
  v229 := Try.zeroValue118 }
def laysCompact_ren : Go.Shelf.Ren := ⟨fun | 20 => 138 | n => n, fun | 22 => 31 | 3 => 3 | 4 => 4 | 0 => 0 | n => n, fun | n => n⟩
theorem laysCompact : Go.Proofs.Lays2.n20 Try.prog laysCompact_ren := {
  mixed := by kernel_rfl,
  f20 := Try.func138.trans (congrArg some (by kernel_rfl)),
  t0 := Try.underlying0,
  a0 := Try.isAgg0,
  z0 := Try.sizeOf0,
  v0 := Try.zeroValue0,
  t3 := Try.underlying3,
  a3 := Try.isAgg3,
  z3 := Try.sizeOf3,
  v3 := Try.zeroValue3,
  t4 := Try.underlying4,
  a4 := Try.isAgg4,
  z4 := Try.sizeOf4,
  v4 := Try.zeroValue4,
  t22 := Try.underlying31,
  a22 := Try.isAgg31,
  z22 := Try.sizeOf31,
  v22 := Try.zeroValue31,
  i3 := by kernel_rfl }
theorem sort_calls (blk off cap : Nat) (zs : List Int) (w : World) (hH : Go.Sort.Holds (Value.int .i64) w blk off zs.toArray) (hblk : blk < w.heap.size) (hsz : zs.length < 4611686018427387904) :
    Calls Try.prog 137 #[.slice (some ⟨blk, off, none⟩) zs.length cap] w fun e w' =>
      e = .returned (.tuple #[]) ∧ ∃ n os, w' = Go.Sort.grow (Go.Sort.putRow (Value.int .i64) (Go.Sort.ahead w n) blk off (zs.mergeSort fun x y => decide (x ≤ y)).toArray) os :=
  Any.slices_Sort_int laysSort blk off cap zs w hH hblk hsz
theorem sort_none (p : Option Addr) (cap : Nat) (w : World) : Calls Try.prog 137 #[.slice p 0 cap] w fun e w' => e = .returned (.tuple #[]) ∧ w' = w :=
  Any.slices_Sort_int_none laysSort p cap w
theorem compact_calls (blk off cap : Nat) (zs : List Int) (w : World) (hH : Go.Sort.Holds (Value.int .i64) w blk off zs.toArray) (hsz : zs.length ≤ 9223372036854775807) (hcap : zs.length ≤ cap) :
    Calls Try.prog 138 #[.slice (some ⟨blk, off, none⟩) zs.length cap] w fun e w' => e = .returned (.slice (some ⟨blk, off, none⟩) (Go.Lib.compact zs).length cap) ∧ ∃ q, w' = Go.Sort.putRow (Value.int .i64) (Go.Sort.ahead w q) blk off (Go.Lib.compact zs ++ List.replicate (zs.length - (Go.Lib.compact zs).length) 0).toArray :=
  Any.slices_Compact_int laysCompact blk off cap zs w hH hsz hcap
theorem compact_none (p : Option Addr) (cap : Nat) (w : World) : Calls Try.prog 138 #[.slice p 0 cap] w fun e w' => e = .returned (.slice p 0 cap) ∧ w' = w :=
  Any.slices_Compact_int_empty laysCompact p cap w
def laysSortFunc_ren : Go.Shelf.Ren := ⟨fun | 6 => 66 | 15 => 109 | 14 => 108 | 28 => 131 | 29 => 132 | 20 => 123 | 21 => 124 | 22 => 125 | 23 => 126 | 24 => 127 | 25 => 128 | 26 => 129 | 27 => 130 | 46 => 140 | 47 => 141 | 48 => 142 | 49 => 143 | 50 => 144 | 57 => 146 | n => n, fun | 22 => 22 | 24 => 31 | 25 => 71 | 3 => 3 | 39 => 91 | 0 => 0 | 53 => 104 | 55 => 106 | 4 => 4 | 46 => 97 | 45 => 96 | 50 => 101 | 5 => 5 | 9 => 9 | 66 => 110 | 70 => 114 | 76 => 117 | 77 => 118 | n => n, fun | n => n⟩
theorem laysSortFunc : Go.Proofs.SlLaysF.n6 Try.prog laysSortFunc_ren := {
  mixed := by kernel_rfl,
  f6 := ⟨ "slices.SortFunc[[][]int,[]int]", by decide, Try.func66.trans (congrArg some (by kernel_rfl))⟩,
  f14 := ⟨ "slices.pdqsortCmpFunc[[]int]", by decide, Try.func108.trans (congrArg some (by kernel_rfl))⟩,
  f15 := Try.func109.trans (congrArg some (by kernel_rfl)),
  f20 := ⟨ "slices.insertionSortCmpFunc[[]int]", by decide, Try.func123.trans (congrArg some (by kernel_rfl))⟩,
  f21 := ⟨ "slices.heapSortCmpFunc[[]int]", by decide, Try.func124.trans (congrArg some (by kernel_rfl))⟩,
  f22 := ⟨ "slices.breakPatternsCmpFunc[[]int]", by decide, Try.func125.trans (congrArg some (by kernel_rfl))⟩,
  f23 := ⟨ "slices.choosePivotCmpFunc[[]int]", by decide, Try.func126.trans (congrArg some (by kernel_rfl))⟩,
  f24 := ⟨ "slices.reverseRangeCmpFunc[[]int]", by decide, Try.func127.trans (congrArg some (by kernel_rfl))⟩,
  f25 := ⟨ "slices.partialInsertionSortCmpFunc[[]int]", by decide, Try.func128.trans (congrArg some (by kernel_rfl))⟩,
  f26 := ⟨ "slices.partitionEqualCmpFunc[[]int]", by decide, Try.func129.trans (congrArg some (by kernel_rfl))⟩,
  f27 := ⟨ "slices.partitionCmpFunc[[]int]", by decide, Try.func130.trans (congrArg some (by kernel_rfl))⟩,
  f28 := Try.func131.trans (congrArg some (by kernel_rfl)),
  f29 := Try.func132.trans (congrArg some (by kernel_rfl)),
  f46 := ⟨ "slices.siftDownCmpFunc[[]int]", by decide, Try.func140.trans (congrArg some (by kernel_rfl))⟩,
  f47 := Try.func141.trans (congrArg some (by kernel_rfl)),
  f48 := Try.func142.trans (congrArg some (by kernel_rfl)),
  f49 := ⟨ "slices.medianAdjacentCmpFunc[[]int]", by decide, Try.func143.trans (congrArg some (by kernel_rfl))⟩,
  f50 := ⟨ "slices.medianCmpFunc[[]int]", by decide, Try.func144.trans (congrArg some (by kernel_rfl))⟩,
  f57 := ⟨ "slices.order2CmpFunc[[]int]", by decide, Try.func146.trans (congrArg some (by kernel_rfl))⟩,
  t0 := Try.underlying0,
  a0 := Try.isAgg0,
  z0 := Try.sizeOf0,
  v0 := Try.zeroValue0,
  t3 := Try.underlying3,
  a3 := Try.isAgg3,
  z3 := Try.sizeOf3,
  v3 := Try.zeroValue3,
  t4 := Try.underlying4,
  a4 := Try.isAgg4,
  z4 := Try.sizeOf4,
  v4 := Try.zeroValue4,
  t5 := Try.underlying5,
  a5 := Try.isAgg5,
  z5 := Try.sizeOf5,
  v5 := Try.zeroValue5,
  t9 := Try.underlying9,
  a9 := Try.isAgg9,
  z9 := Try.sizeOf9,
  v9 := Try.zeroValue9,
  t22 := Try.underlying22,
  a22 := Try.isAgg22,
  z22 := Try.sizeOf22,
  v22 := Try.zeroValue22,
  a24 := Try.isAgg31,
  z24 := Try.sizeOf31,
  t25 := Try.underlying71,
  a25 := Try.isAgg71,
  z25 := Try.sizeOf71,
  v25 := Try.zeroValue71,
  t39 := Try.underlying91,
  a39 := Try.isAgg91,
  z39 := Try.sizeOf91,
  v39 := Try.zeroValue91,
  t45 := Try.underlying96,
  a45 := Try.isAgg96,
  z45 := Try.sizeOf96,
  v45 := Try.zeroValue96,
  t46 := Try.underlying97,
  a46 := Try.isAgg97,
  z46 := Try.sizeOf97,
  v46 := Try.zeroValue97,
  t50 := Try.underlying101,
  a50 := Try.isAgg101,
  z50 := Try.sizeOf101,
  v50 := Try.zeroValue101,
  t53 := Try.underlying104,
  a53 := Try.isAgg104,
  z53 := Try.sizeOf104,
  v53 := Try.zeroValue104,
  t55 := Try.underlying106,
  a55 := Try.isAgg106,
  z55 := Try.sizeOf106,
  v55 := Try.zeroValue106,
  t66 := Try.underlying110,
  a66 := Try.isAgg110,
  z66 := Try.sizeOf110,
  v66 := Try.zeroValue110,
  t70 := Try.underlying114,
  a70 := Try.isAgg114,
  z70 := Try.sizeOf114,
  v70 := Try.zeroValue114,
  t76 := Try.underlying117,
  a76 := Try.isAgg117,
  z76 := Try.sizeOf117,
  v76 := Try.zeroValue117,
  t77 := Try.underlying118,
  a77 := Try.isAgg118,
  z77 := Try.sizeOf118,
  v77 := Try.zeroValue118 }
set_option maxHeartbeats 2000000 in
theorem ins_none (p : Option Addr) (cap : Nat) (fv : Value) (w : World) : Calls Try.prog 123 #[.slice p 0 cap, .int .i64 0, .int .i64 0, fv] w fun e w' => e = .returned (.tuple #[]) ∧ w' = w := by
  go_enter Try.func123, Try.ntmps123
  go_wp2
  refine wp_loop_rounds 1 ?_
  rw [rounds_succ]
  go_wp2
  go_end0
  exact ⟨rfl, rfl⟩
set_option maxHeartbeats 2000000 in
theorem pdq_none (p : Option Addr) (cap : Nat) (lim : Int) (fv : Value) (w : World) : Calls Try.prog 108 #[.slice p 0 cap, .int .i64 0, .int .i64 0, .int .i64 lim, fv] w fun e w' => e = .returned (.tuple #[]) ∧ w' = w := by
  have hi := fun W => ins_none p cap fv W
  go_enter Try.func108, Try.ntmps108
  go_wp2
  refine wp_loop_rounds 1 ?_
  rw [rounds_succ]
  go_wp2_with (go_at_call 123; refine (hi _).mono ?_; rintro e w' ⟨rfl, rfl⟩)
  (try simp only [Exit.inBlock, Exit.then]); refine bodyPost_ret (results_none rfl _ _ _) rfl ?_
  exact ⟨rfl, rfl⟩
set_option maxHeartbeats 2000000 in
theorem sortf_none (p : Option Addr) (cap : Nat) (fv : Value) (w : World) : Calls Try.prog 66 #[.slice p 0 cap, fv] w fun e w' => e = .returned (.tuple #[]) ∧ w' = w := by
  have hp := fun lim W => pdq_none p cap lim fv W
  have hl : ∀ W, Calls Try.prog 109 #[.int .u64 0] W fun e w' => e = .returned (.int .i64 (Lib.bitLen 0 : Nat)) ∧ w' = W := fun W => by
    have L := laysSortFunc
    have h := Any.bits_Len (SlLaysF0.n15.bits (P := Try.prog) (ρ := laysSortFunc_ren) { L with }) 0 W (by omega) (by omega)
    exact h
  go_enter Try.func66, Try.ntmps66
  go_wp2_with (first | (go_at_call 109; refine (hl _).mono ?_; rintro e w' ⟨rfl, rfl⟩) | (go_at_call 108; refine (hp _ _).mono ?_; rintro e w' ⟨rfl, rfl⟩))
  go_end0
  exact ⟨rfl, rfl⟩
theorem sortf_calls {α : Type} [Inhabited α] (enc : α → Value) (h1 : OneCell enc) (cf : α → α → Int) (hO : Go.Sort.SWO (ltOf cf)) (g : Nat) (blk off cap : Nat) (d : Array α) (w : World)
    (eg : ∀ args w, (callFunc g args).run Try.prog w = .ok (.enter g args) w) (hcmp : CmpLays1 Try.prog g #[] enc cf blk off d.size w) (hH : Go.Sort.Holds enc w blk off d) (hblk : blk < w.heap.size) (hsz : d.size < 4611686018427387904) :
    Calls Try.prog 66 #[.slice (some ⟨blk, off, none⟩) d.size cap, .func (.func g) #[] #[]] w fun e w' =>
      e = .returned (.tuple #[]) ∧ ∃ d' n os, Go.Sort.PermIn 0 d.size d d' ∧ Go.Sort.SortedIn (ltOf cf) 0 d.size d' ∧ w' = sortWorld enc w blk off n d' os :=
  Any.slices_SortFunc laysSortFunc enc h1 cf hO g #[] blk off cap d w eg hcmp hH hblk hsz
end Go.Proofs.YtdlobolnajcfnaaSh
