/- The library's contracts for slices.Sort and slices.Compact of ints, at this program's own numbers: what the kit's laying command hands to Lean, as plain text; no condition beyond the contracts'. -/
import Derived.Test.YtbiieeldfnjogaaProg
import Derived.Shelf.Sort.Plain
import Derived.Shelf.Slices.In.SortNone
import Derived.Shelf.Slices.CompactI
set_option linter.unusedVariables false
namespace Go.Proofs.YtbiieeldfnjogaaSh
open Go.Shelf
def laysSort_ren : Go.Shelf.Ren := ⟨fun | 189 => 57 | 125 => 62 | 257 => 61 | 128 => 72 | 129 => 73 | 294 => 63 | 295 => 64 | 296 => 65 | 297 => 66 | 298 => 67 | 299 => 68 | 216 => 69 | 300 => 70 | 301 => 71 | 328 => 74 | 329 => 75 | 330 => 76 | 331 => 77 | 332 => 78 | 215 => 79 | 343 => 80 | n => n, fun | 28 => 22 | 3 => 3 | 46 => 56 | 0 => 0 | 51 => 69 | 53 => 42 | 4 => 4 | 183 => 61 | 182 => 60 | 131 => 66 | 5 => 5 | 9 => 9 | 218 => 70 | 222 => 74 | 228 => 77 | 229 => 78 | n => n, fun | n => n⟩
theorem laysSort : Go.Proofs.Lays.n189 Try.prog laysSort_ren := {
  mixed := by kernel_rfl,
  f125 := Try.func62.trans (congrArg some (by kernel_rfl)),
  f128 := Try.func72.trans (congrArg some (by kernel_rfl)),
  f129 := Try.func73.trans (congrArg some (by kernel_rfl)),
  f189 := Try.func57.trans (congrArg some (by kernel_rfl)),
  f215 := Try.func79.trans (congrArg some (by kernel_rfl)),
  f216 := Try.func69.trans (congrArg some (by kernel_rfl)),
  f257 := Try.func61.trans (congrArg some (by kernel_rfl)),
  f294 := Try.func63.trans (congrArg some (by kernel_rfl)),
  f295 := Try.func64.trans (congrArg some (by kernel_rfl)),
  f296 := Try.func65.trans (congrArg some (by kernel_rfl)),
  f297 := Try.func66.trans (congrArg some (by kernel_rfl)),
  f298 := Try.func67.trans (congrArg some (by kernel_rfl)),
  f299 := Try.func68.trans (congrArg some (by kernel_rfl)),
  f300 := Try.func70.trans (congrArg some (by kernel_rfl)),
  f301 := Try.func71.trans (congrArg some (by kernel_rfl)),
  f328 := Try.func74.trans (congrArg some (by kernel_rfl)),
  f329 := Try.func75.trans (congrArg some (by kernel_rfl)),
  f330 := Try.func76.trans (congrArg some (by kernel_rfl)),
  f331 := Try.func77.trans (congrArg some (by kernel_rfl)),
  f332 := Try.func78.trans (congrArg some (by kernel_rfl)),
  f343 := Try.func80.trans (congrArg some (by kernel_rfl)),
  t0 := Try.underlying0,
  a0 := Try.isAgg0,
  z0 := Try.sizeOf0,
  v0 := Try.zeroValue0,
  t3 := Try.underlying3,
  a3 := Try.isAgg3,
  z3 := Try.sizeOf3,
  v3 := Try.zeroValue3,
  t4 := Try.underlying4,
  a4 := Try.isAgg4,
  z4 := Try.sizeOf4,
  v4 := Try.zeroValue4,
  t5 := Try.underlying5,
  a5 := Try.isAgg5,
  z5 := Try.sizeOf5,
  v5 := Try.zeroValue5,
  t9 := Try.underlying9,
  a9 := Try.isAgg9,
  z9 := Try.sizeOf9,
  v9 := Try.zeroValue9,
  t28 := Try.underlying22,
  a28 := Try.isAgg22,
  z28 := Try.sizeOf22,
  v28 := Try.zeroValue22,
  t46 := Try.underlying56,
  a46 := Try.isAgg56,
  z46 := Try.sizeOf56,
  v46 := Try.zeroValue56,
  t51 := Try.underlying69,
  a51 := Try.isAgg69,
  z51 := Try.sizeOf69,
  v51 := Try.zeroValue69,
  t53 := Try.underlying42,
  a53 := Try.isAgg42,
  z53 := Try.sizeOf42,
  v53 := Try.zeroValue42,
  t131 := Try.underlying66,
  a131 := Try.isAgg66,
  z131 := Try.sizeOf66,
  v131 := Try.zeroValue66,
  t182 := Try.underlying60,
  a182 := Try.isAgg60,
  z182 := Try.sizeOf60,
  v182 := Try.zeroValue60,
  t183 := Try.underlying61,
  a183 := Try.isAgg61,
  z183 := Try.sizeOf61,
  v183 := Try.zeroValue61,
  t218 := Try.underlying70,
  a218 := Try.isAgg70,
  z218 := Try.sizeOf70,
  v218 := Try.zeroValue70,
  t222 := Try.underlying74,
  a222 := Try.isAgg74,
  z222 := Try.sizeOf74,
  v222 := Try.zeroValue74,
  t228 := Try.underlying77,
  a228 := Try.isAgg77,
  z228 := Try.sizeOf77,
  v228 := Try.zeroValue77,
  t229 := Try.underlying78,
  a229 := Try.isAgg78,
  z229 := Try.sizeOf78,
  v229 := Try.zeroValue78 }
def laysCompact_ren : Go.Shelf.Ren := ⟨fun | 20 => 58 | n => n, fun | 22 => 22 | 3 => 3 | 4 => 4 | 0 => 0 | n => n, fun | n => n⟩
theorem laysCompact : Go.Proofs.Lays2.n20 Try.prog laysCompact_ren := {
  mixed := by kernel_rfl,
  f20 := Try.func58.trans (congrArg some (by kernel_rfl)),
  t0 := Try.underlying0,
  a0 := Try.isAgg0,
  z0 := Try.sizeOf0,
  v0 := Try.zeroValue0,
  t3 := Try.underlying3,
  a3 := Try.isAgg3,
  z3 := Try.sizeOf3,
  v3 := Try.zeroValue3,
  t4 := Try.underlying4,
  a4 := Try.isAgg4,
  z4 := Try.sizeOf4,
  v4 := Try.zeroValue4,
  t22 := Try.underlying22,
  a22 := Try.isAgg22,
  z22 := Try.sizeOf22,
  v22 := Try.zeroValue22,
  i3 := by kernel_rfl }
theorem sort_calls (blk off cap : Nat) (zs : List Int) (w : World) (hH : Go.Sort.Holds (Value.int .i64) w blk off zs.toArray) (hblk : blk < w.heap.size) (hsz : zs.length < 4611686018427387904) :
    Calls Try.prog 57 #[.slice (some ⟨blk, off, none⟩) zs.length cap] w fun e w' =>
      e = .returned (.tuple #[]) ∧ ∃ n os, w' = Go.Sort.grow (Go.Sort.putRow (Value.int .i64) (Go.Sort.ahead w n) blk off (zs.mergeSort fun x y => decide (x ≤ y)).toArray) os :=
  Any.slices_Sort_int laysSort blk off cap zs w hH hblk hsz
theorem sort_none (p : Option Addr) (cap : Nat) (w : World) : Calls Try.prog 57 #[.slice p 0 cap] w fun e w' => e = .returned (.tuple #[]) ∧ w' = w :=
  Any.slices_Sort_int_none laysSort p cap w
theorem compact_calls (blk off cap : Nat) (zs : List Int) (w : World) (hH : Go.Sort.Holds (Value.int .i64) w blk off zs.toArray) (hsz : zs.length ≤ 9223372036854775807) (hcap : zs.length ≤ cap) :
    Calls Try.prog 58 #[.slice (some ⟨blk, off, none⟩) zs.length cap] w fun e w' => e = .returned (.slice (some ⟨blk, off, none⟩) (Go.Lib.compact zs).length cap) ∧ ∃ q, w' = Go.Sort.putRow (Value.int .i64) (Go.Sort.ahead w q) blk off (Go.Lib.compact zs ++ List.replicate (zs.length - (Go.Lib.compact zs).length) 0).toArray :=
  Any.slices_Compact_int laysCompact blk off cap zs w hH hsz hcap
theorem compact_none (p : Option Addr) (cap : Nat) (w : World) : Calls Try.prog 58 #[.slice p 0 cap] w fun e w' => e = .returned (.slice p 0 cap) ∧ w' = w :=
  Any.slices_Compact_int_empty laysCompact p cap w
end Go.Proofs.YtbiieeldfnjogaaSh
